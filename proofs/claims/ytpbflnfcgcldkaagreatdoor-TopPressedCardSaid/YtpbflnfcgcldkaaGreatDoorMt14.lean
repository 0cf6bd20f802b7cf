/- Texts of this proof, one behind the other: Fa, Tq1, Tq2, Tq3, Tq4, Uf1, Ua1, Tf1, Tf2, Tf3, Tf4, TaS, TaT. -/
import Derived.Test.YtpbflnfcgcldkaaGreatDoorMt9
import Derived.Test.YtpbflnfcgcldkaaGreatDoorProg
import Derived.Test.YtpbflnfcgcldkaaGreatDoorMt12
import Derived.Test.YtpbflnfcgcldkaaGreatDoorMt13
import Derived.Test.YtpbflnfcgcldkaaGreatDoorMt11
/- The program's tables, asked once. -/
namespace Go.Proofs.YtpbflnfcgcldkaaGreatDoor
open Go.Sx Go.Proofs
theorem sz_2 : szOf Tryz.prog 2 = some 1 := by kernel_rfl
theorem by_2 : byOf Tryz.prog 2 = some 8 := by kernel_rfl
theorem ag_2 : aggOf Tryz.prog 2 = some false := by kernel_rfl
theorem zc_2 : zcOf Tryz.prog 2 = some [.int .i64 0] := by kernel_rfl
theorem sz_3 : szOf Tryz.prog 3 = some 1 := by kernel_rfl
theorem by_3 : byOf Tryz.prog 3 = some 8 := by kernel_rfl
theorem ag_3 : aggOf Tryz.prog 3 = some false := by kernel_rfl
theorem zc_3 : zcOf Tryz.prog 3 = some [.int .i64 0] := by kernel_rfl
theorem zv_3 : (Tryz.prog.info? 3).bind (·.zero) = some (.int .i64 0) := by kernel_rfl
theorem sz_4 : szOf Tryz.prog 4 = some 1 := by kernel_rfl
theorem ag_4 : aggOf Tryz.prog 4 = some false := by kernel_rfl
theorem sz_5 : szOf Tryz.prog 5 = some 1 := by kernel_rfl
theorem ag_5 : aggOf Tryz.prog 5 = some false := by kernel_rfl
theorem ag_9 : aggOf Tryz.prog 9 = some false := by kernel_rfl
theorem ag_29 : aggOf Tryz.prog 29 = some false := by kernel_rfl
theorem sz_36 : szOf Tryz.prog 36 = some 1 := by kernel_rfl
theorem ag_36 : aggOf Tryz.prog 36 = some false := by kernel_rfl
theorem ag_43 : aggOf Tryz.prog 43 = some false := by kernel_rfl
theorem sz_47 : szOf Tryz.prog 47 = some 7 := by kernel_rfl
theorem by_47 : byOf Tryz.prog 47 = some 56 := by kernel_rfl
theorem ag_47 : aggOf Tryz.prog 47 = some true := by kernel_rfl
theorem zc_47 : zcOf Tryz.prog 47 = some [.int .i64 0, .int .i64 0, .int .i64 0, .int .i64 0, .int .i64 0, .int .i64 0, .bool false] := by kernel_rfl
theorem sa_47 : isAggOf Tryz.prog 47 = true := by kernel_rfl
theorem pl_47 : plOf Tryz.prog 47 = some [(0, 1), (1, 1), (2, 1), (3, 1), (4, 1), (5, 1), (6, 1)] := by kernel_rfl
theorem fo_47_0 : foOf Tryz.prog 47 0 = some 0 := by kernel_rfl
theorem fo_47_1 : foOf Tryz.prog 47 1 = some 1 := by kernel_rfl
theorem fo_47_2 : foOf Tryz.prog 47 2 = some 2 := by kernel_rfl
theorem fo_47_3 : foOf Tryz.prog 47 3 = some 3 := by kernel_rfl
theorem fo_47_6 : foOf Tryz.prog 47 6 = some 6 := by kernel_rfl
theorem sz_58 : szOf Tryz.prog 58 = some 9 := by kernel_rfl
theorem ag_58 : aggOf Tryz.prog 58 = some true := by kernel_rfl
theorem zc_58 : zcOf Tryz.prog 58 = some [.int .i64 0, .int .i64 0, .int .i64 0, .int .i64 0, .int .i64 0, .int .i64 0, .int .i64 0, .int .i64 0, .int .i64 0] := by kernel_rfl
theorem sa_58 : isAggOf Tryz.prog 58 = true := by kernel_rfl
theorem pl_58 : plOf Tryz.prog 58 = some [(0, 1), (1, 1), (2, 1), (3, 1), (4, 1), (5, 1), (6, 1), (7, 1), (8, 1)] := by kernel_rfl
theorem fo_58_0 : foOf Tryz.prog 58 0 = some 0 := by kernel_rfl
theorem fo_58_1 : foOf Tryz.prog 58 1 = some 1 := by kernel_rfl
theorem fo_58_2 : foOf Tryz.prog 58 2 = some 2 := by kernel_rfl
theorem fo_58_3 : foOf Tryz.prog 58 3 = some 3 := by kernel_rfl
theorem fo_58_4 : foOf Tryz.prog 58 4 = some 4 := by kernel_rfl
theorem fo_58_5 : foOf Tryz.prog 58 5 = some 5 := by kernel_rfl
theorem fo_58_6 : foOf Tryz.prog 58 6 = some 6 := by kernel_rfl
theorem fo_58_7 : foOf Tryz.prog 58 7 = some 7 := by kernel_rfl
theorem fo_58_8 : foOf Tryz.prog 58 8 = some 8 := by kernel_rfl
theorem sz_67 : szOf Tryz.prog 67 = some 3 := by kernel_rfl
theorem by_67 : byOf Tryz.prog 67 = some 24 := by kernel_rfl
theorem ag_67 : aggOf Tryz.prog 67 = some true := by kernel_rfl
theorem zc_67 : zcOf Tryz.prog 67 = some [.int .i64 0, .int .i64 0, .int .i64 0] := by kernel_rfl
theorem sa_67 : isAggOf Tryz.prog 67 = true := by kernel_rfl
theorem pl_67 : plOf Tryz.prog 67 = some [(0, 1), (1, 1), (2, 1)] := by kernel_rfl
theorem fo_67_0 : foOf Tryz.prog 67 0 = some 0 := by kernel_rfl
theorem fo_67_1 : foOf Tryz.prog 67 1 = some 1 := by kernel_rfl
theorem fo_67_2 : foOf Tryz.prog 67 2 = some 2 := by kernel_rfl
theorem sz_71 : szOf Tryz.prog 71 = some 3 := by kernel_rfl
theorem ag_71 : aggOf Tryz.prog 71 = some true := by kernel_rfl
theorem zc_71 : zcOf Tryz.prog 71 = some [.int .i64 0, .int .i64 0, .int .i64 0] := by kernel_rfl
theorem sa_71 : isAggOf Tryz.prog 71 = true := by kernel_rfl
theorem pl_71 : plOf Tryz.prog 71 = some [(0, 1), (1, 1), (2, 1)] := by kernel_rfl
theorem fo_71_0 : foOf Tryz.prog 71 0 = some 0 := by kernel_rfl
theorem fo_71_1 : foOf Tryz.prog 71 1 = some 1 := by kernel_rfl
theorem fo_71_2 : foOf Tryz.prog 71 2 = some 2 := by kernel_rfl
theorem sz_77 : szOf Tryz.prog 77 = some 8 := by kernel_rfl
theorem ag_77 : aggOf Tryz.prog 77 = some true := by kernel_rfl
theorem zc_77 : zcOf Tryz.prog 77 = some [.string .empty, .int .i64 0, .int .i64 0, .int .i64 0, .int .i64 0, .int .i64 0, .int .i64 0, .int .i64 0] := by kernel_rfl
theorem sa_77 : isAggOf Tryz.prog 77 = true := by kernel_rfl
theorem pl_77 : plOf Tryz.prog 77 = some [(0, 1), (1, 1), (2, 1), (3, 1), (4, 1), (5, 1), (6, 1), (7, 1)] := by kernel_rfl
theorem fo_77_0 : foOf Tryz.prog 77 0 = some 0 := by kernel_rfl
theorem fo_77_1 : foOf Tryz.prog 77 1 = some 1 := by kernel_rfl
theorem fo_77_2 : foOf Tryz.prog 77 2 = some 2 := by kernel_rfl
theorem fo_77_3 : foOf Tryz.prog 77 3 = some 3 := by kernel_rfl
theorem fo_77_4 : foOf Tryz.prog 77 4 = some 4 := by kernel_rfl
theorem fo_77_5 : foOf Tryz.prog 77 5 = some 5 := by kernel_rfl
theorem fo_77_6 : foOf Tryz.prog 77 6 = some 6 := by kernel_rfl
theorem fo_77_7 : foOf Tryz.prog 77 7 = some 7 := by kernel_rfl
theorem ag_95 : aggOf Tryz.prog 95 = some false := by kernel_rfl
theorem ag_107 : aggOf Tryz.prog 107 = some false := by kernel_rfl
theorem sz_124 : szOf Tryz.prog 124 = some 7 := by kernel_rfl
theorem ag_124 : aggOf Tryz.prog 124 = some true := by kernel_rfl
theorem zc_124 : zcOf Tryz.prog 124 = some [.int .i64 0, .int .i64 0, .int .i64 0, .int .i64 0, .int .i64 0, .int .i64 0, .int .i64 0] := by kernel_rfl
theorem sa_124 : isAggOf Tryz.prog 124 = true := by kernel_rfl
theorem pl_124 : plOf Tryz.prog 124 = some [(0, 1), (1, 1), (2, 1), (3, 1), (4, 1), (5, 1), (6, 1)] := by kernel_rfl
theorem fo_124_0 : foOf Tryz.prog 124 0 = some 0 := by kernel_rfl
theorem fo_124_1 : foOf Tryz.prog 124 1 = some 1 := by kernel_rfl
theorem fo_124_2 : foOf Tryz.prog 124 2 = some 2 := by kernel_rfl
theorem fo_124_3 : foOf Tryz.prog 124 3 = some 3 := by kernel_rfl
theorem fo_124_4 : foOf Tryz.prog 124 4 = some 4 := by kernel_rfl
theorem fo_124_5 : foOf Tryz.prog 124 5 = some 5 := by kernel_rfl
theorem fo_124_6 : foOf Tryz.prog 124 6 = some 6 := by kernel_rfl
theorem ag_169 : aggOf Tryz.prog 169 = some false := by kernel_rfl
theorem sz_170 : szOf Tryz.prog 170 = some 1 := by kernel_rfl
theorem ag_170 : aggOf Tryz.prog 170 = some false := by kernel_rfl
theorem sz_171 : szOf Tryz.prog 171 = some 1 := by kernel_rfl
theorem ag_171 : aggOf Tryz.prog 171 = some false := by kernel_rfl
theorem sz_173 : szOf Tryz.prog 173 = some 9 := by kernel_rfl
theorem ag_173 : aggOf Tryz.prog 173 = some true := by kernel_rfl
theorem zc_173 : zcOf Tryz.prog 173 = some [.bool false, .bool false, .int .i64 0, .int .i64 0, .int .i64 0, .int .i64 0, .int .i64 0, .int .i64 0, .int .i64 0] := by kernel_rfl
theorem fo_173_0 : foOf Tryz.prog 173 0 = some 0 := by kernel_rfl
theorem fo_173_1 : foOf Tryz.prog 173 1 = some 1 := by kernel_rfl
theorem fo_173_2 : foOf Tryz.prog 173 2 = some 2 := by kernel_rfl
theorem fo_173_3 : foOf Tryz.prog 173 3 = some 3 := by kernel_rfl
theorem fo_173_4 : foOf Tryz.prog 173 4 = some 4 := by kernel_rfl
theorem fo_173_5 : foOf Tryz.prog 173 5 = some 5 := by kernel_rfl
theorem fo_173_6 : foOf Tryz.prog 173 6 = some 6 := by kernel_rfl
theorem fo_173_7 : foOf Tryz.prog 173 7 = some 7 := by kernel_rfl
theorem fo_173_8 : foOf Tryz.prog 173 8 = some 8 := by kernel_rfl
theorem sz_175 : szOf Tryz.prog 175 = some 20 := by kernel_rfl
theorem ag_175 : aggOf Tryz.prog 175 = some true := by kernel_rfl
theorem zc_175 : zcOf Tryz.prog 175 = some [.bool false, .bool false, .int .i64 0, .int .i64 0, .int .i64 0, .int .i64 0, .int .i64 0, .int .i64 0, .int .i64 0, .int .i64 0, .int .i64 0, .int .i64 0, .int .i64 0, .int .i64 0, .int .i64 0, .int .i64 0, .int .i64 0, .int .i64 0, .slice none 0 0, .map none] := by kernel_rfl
theorem sa_175 : isAggOf Tryz.prog 175 = true := by kernel_rfl
theorem pl_175 : plOf Tryz.prog 175 = some [(0, 9), (9, 9), (18, 1), (19, 1)] := by kernel_rfl
theorem fo_175_0 : foOf Tryz.prog 175 0 = some 0 := by kernel_rfl
theorem fo_175_1 : foOf Tryz.prog 175 1 = some 9 := by kernel_rfl
theorem fo_175_2 : foOf Tryz.prog 175 2 = some 18 := by kernel_rfl
theorem fo_175_3 : foOf Tryz.prog 175 3 = some 19 := by kernel_rfl
theorem zc_177 : zcOf Tryz.prog 177 = some [.pointer none] := by kernel_rfl
theorem sa_177 : isAggOf Tryz.prog 177 = true := by kernel_rfl
theorem pl_177 : plOf Tryz.prog 177 = some [(0, 1)] := by kernel_rfl
theorem fo_177_0 : foOf Tryz.prog 177 0 = some 0 := by kernel_rfl
theorem sz_178 : szOf Tryz.prog 178 = some 1 := by kernel_rfl
theorem ag_178 : aggOf Tryz.prog 178 = some false := by kernel_rfl
theorem sz_179 : szOf Tryz.prog 179 = some 7 := by kernel_rfl
theorem zc_179 : zcOf Tryz.prog 179 = some [.nilFunc, .nilFunc, .nilFunc, .nilFunc, .nilFunc, .nilFunc, .nilFunc] := by kernel_rfl
theorem sa_179 : isAggOf Tryz.prog 179 = true := by kernel_rfl
theorem pl_179 : plOf Tryz.prog 179 = some [(0, 1), (1, 1), (2, 1), (3, 1), (4, 1), (5, 1), (6, 1)] := by kernel_rfl
theorem ag_228 : aggOf Tryz.prog 228 = some false := by kernel_rfl
theorem sz_230 : szOf Tryz.prog 230 = some 2 := by kernel_rfl
theorem ag_230 : aggOf Tryz.prog 230 = some true := by kernel_rfl
theorem zc_230 : zcOf Tryz.prog 230 = some [.string .empty, .slice none 0 0] := by kernel_rfl
theorem sa_230 : isAggOf Tryz.prog 230 = true := by kernel_rfl
theorem pl_230 : plOf Tryz.prog 230 = some [(0, 1), (1, 1)] := by kernel_rfl
theorem fo_230_0 : foOf Tryz.prog 230 0 = some 0 := by kernel_rfl
theorem fo_230_1 : foOf Tryz.prog 230 1 = some 1 := by kernel_rfl
theorem ag_255 : aggOf Tryz.prog 255 = some false := by kernel_rfl
theorem sz_259 : szOf Tryz.prog 259 = some 1 := by kernel_rfl
theorem ag_259 : aggOf Tryz.prog 259 = some true := by kernel_rfl
theorem zc_259 : zcOf Tryz.prog 259 = some [.slice none 0 0] := by kernel_rfl
theorem sa_259 : isAggOf Tryz.prog 259 = true := by kernel_rfl
theorem pl_259 : plOf Tryz.prog 259 = some [(0, 1)] := by kernel_rfl
theorem fo_259_0 : foOf Tryz.prog 259 0 = some 0 := by kernel_rfl
theorem sz_261 : szOf Tryz.prog 261 = some 2 := by kernel_rfl
theorem by_261 : byOf Tryz.prog 261 = some 16 := by kernel_rfl
theorem ag_261 : aggOf Tryz.prog 261 = some true := by kernel_rfl
theorem zc_261 : zcOf Tryz.prog 261 = some [.int .i64 0, .int .i64 0] := by kernel_rfl
theorem sa_261 : isAggOf Tryz.prog 261 = true := by kernel_rfl
theorem pl_261 : plOf Tryz.prog 261 = some [(0, 1), (1, 1)] := by kernel_rfl
theorem fo_261_0 : foOf Tryz.prog 261 0 = some 0 := by kernel_rfl
theorem fo_261_1 : foOf Tryz.prog 261 1 = some 1 := by kernel_rfl
theorem sz_287 : szOf Tryz.prog 287 = some 2 := by kernel_rfl
theorem ag_287 : aggOf Tryz.prog 287 = some true := by kernel_rfl
theorem zc_287 : zcOf Tryz.prog 287 = some [.int .i64 0, .int .i64 0] := by kernel_rfl
theorem sa_287 : isAggOf Tryz.prog 287 = true := by kernel_rfl
theorem pl_287 : plOf Tryz.prog 287 = some [(0, 1), (1, 1)] := by kernel_rfl
theorem ag_290 : aggOf Tryz.prog 290 = some false := by kernel_rfl
theorem sz_293 : szOf Tryz.prog 293 = some 2 := by kernel_rfl
theorem by_293 : byOf Tryz.prog 293 = some 16 := by kernel_rfl
theorem ag_293 : aggOf Tryz.prog 293 = some true := by kernel_rfl
theorem zc_293 : zcOf Tryz.prog 293 = some [.int .i64 0, .int .i64 0] := by kernel_rfl
theorem sa_293 : isAggOf Tryz.prog 293 = true := by kernel_rfl
theorem pl_293 : plOf Tryz.prog 293 = some [(0, 1), (1, 1)] := by kernel_rfl
theorem fo_293_0 : foOf Tryz.prog 293 0 = some 0 := by kernel_rfl
theorem fo_293_1 : foOf Tryz.prog 293 1 = some 1 := by kernel_rfl
theorem sz_295 : szOf Tryz.prog 295 = some 3 := by kernel_rfl
theorem zc_295 : zcOf Tryz.prog 295 = some [.int .i64 0, .int .i64 0, .int .i64 0] := by kernel_rfl
theorem sa_295 : isAggOf Tryz.prog 295 = true := by kernel_rfl
theorem pl_295 : plOf Tryz.prog 295 = some [(0, 2), (2, 1)] := by kernel_rfl
theorem fi_295_0 : fiOf Tryz.prog 295 0 = some (0, 2, true) := by kernel_rfl
theorem fi_295_1 : fiOf Tryz.prog 295 1 = some (2, 1, false) := by kernel_rfl
theorem sz_301 : szOf Tryz.prog 301 = some 3 := by kernel_rfl
theorem ag_301 : aggOf Tryz.prog 301 = some true := by kernel_rfl
theorem zc_301 : zcOf Tryz.prog 301 = some [.int .i64 0, .int .i64 0, .int .i64 0] := by kernel_rfl
theorem sa_301 : isAggOf Tryz.prog 301 = true := by kernel_rfl
theorem pl_301 : plOf Tryz.prog 301 = some [(0, 1), (1, 1), (2, 1)] := by kernel_rfl
theorem fo_301_0 : foOf Tryz.prog 301 0 = some 0 := by kernel_rfl
theorem fo_301_1 : foOf Tryz.prog 301 1 = some 1 := by kernel_rfl
theorem fo_301_2 : foOf Tryz.prog 301 2 = some 2 := by kernel_rfl
theorem zc_304 : zcOf Tryz.prog 304 = some [.string .empty, .int .i64 0, .int .i64 0, .int .i64 0, .int .i64 0, .int .i64 0, .int .i64 0, .int .i64 0, .slice none 0 0] := by kernel_rfl
theorem sa_304 : isAggOf Tryz.prog 304 = true := by kernel_rfl
theorem pl_304 : plOf Tryz.prog 304 = some [(0, 8), (8, 1)] := by kernel_rfl
theorem fo_304_0 : foOf Tryz.prog 304 0 = some 0 := by kernel_rfl
theorem fo_304_1 : foOf Tryz.prog 304 1 = some 8 := by kernel_rfl
theorem ag_310 : aggOf Tryz.prog 310 = some false := by kernel_rfl
theorem sz_349 : szOf Tryz.prog 349 = some 3 := by kernel_rfl
theorem ag_349 : aggOf Tryz.prog 349 = some true := by kernel_rfl
theorem zc_349 : zcOf Tryz.prog 349 = some [.int .i64 0, .int .i64 0, .int .i64 0] := by kernel_rfl
theorem sa_349 : isAggOf Tryz.prog 349 = true := by kernel_rfl
theorem pl_349 : plOf Tryz.prog 349 = some [(0, 1), (1, 1), (2, 1)] := by kernel_rfl
theorem sz_379 : szOf Tryz.prog 379 = some 1 := by kernel_rfl
theorem ag_379 : aggOf Tryz.prog 379 = some false := by kernel_rfl
theorem zc_381 : zcOf Tryz.prog 381 = some [.slice none 0 0, .slice none 0 0, .int .i64 0] := by kernel_rfl
theorem sa_381 : isAggOf Tryz.prog 381 = true := by kernel_rfl
theorem pl_381 : plOf Tryz.prog 381 = some [(0, 1), (1, 1), (2, 1)] := by kernel_rfl
theorem fo_381_0 : foOf Tryz.prog 381 0 = some 0 := by kernel_rfl
theorem fo_381_1 : foOf Tryz.prog 381 1 = some 1 := by kernel_rfl
theorem fo_381_2 : foOf Tryz.prog 381 2 = some 2 := by kernel_rfl
theorem sz_384 : szOf Tryz.prog 384 = some 10 := by kernel_rfl
theorem by_384 : byOf Tryz.prog 384 = some 80 := by kernel_rfl
theorem ag_384 : aggOf Tryz.prog 384 = some true := by kernel_rfl
theorem zc_384 : zcOf Tryz.prog 384 = some [.int .i64 0, .int .i64 0, .int .i64 0, .int .i64 0, .int .i64 0, .int .i64 0, .int .i64 0, .int .i64 0, .int .i64 0, .int .i64 0] := by kernel_rfl
theorem sa_384 : isAggOf Tryz.prog 384 = true := by kernel_rfl
theorem pl_384 : plOf Tryz.prog 384 = some [(0, 7), (7, 1), (8, 1), (9, 1)] := by kernel_rfl
theorem fo_384_0 : foOf Tryz.prog 384 0 = some 0 := by kernel_rfl
theorem fo_384_2 : foOf Tryz.prog 384 2 = some 8 := by kernel_rfl
theorem fo_384_3 : foOf Tryz.prog 384 3 = some 9 := by kernel_rfl
theorem sz_418 : szOf Tryz.prog 418 = some 7 := by kernel_rfl
theorem ag_418 : aggOf Tryz.prog 418 = some true := by kernel_rfl
theorem zc_418 : zcOf Tryz.prog 418 = some [.int .i64 0, .int .i64 0, .int .i64 0, .int .i64 0, .int .i64 0, .int .i64 0, .int .i64 0] := by kernel_rfl
theorem sa_418 : isAggOf Tryz.prog 418 = true := by kernel_rfl
theorem pl_418 : plOf Tryz.prog 418 = some [(0, 1), (1, 1), (2, 1), (3, 1), (4, 1), (5, 1), (6, 1)] := by kernel_rfl
theorem fo_418_0 : foOf Tryz.prog 418 0 = some 0 := by kernel_rfl
theorem fo_418_1 : foOf Tryz.prog 418 1 = some 1 := by kernel_rfl
theorem fo_418_2 : foOf Tryz.prog 418 2 = some 2 := by kernel_rfl
theorem fo_418_3 : foOf Tryz.prog 418 3 = some 3 := by kernel_rfl
theorem fo_418_4 : foOf Tryz.prog 418 4 = some 4 := by kernel_rfl
theorem fo_418_5 : foOf Tryz.prog 418 5 = some 5 := by kernel_rfl
theorem fo_418_6 : foOf Tryz.prog 418 6 = some 6 := by kernel_rfl
theorem sz_421 : szOf Tryz.prog 421 = some 2 := by kernel_rfl
theorem by_421 : byOf Tryz.prog 421 = some 16 := by kernel_rfl
theorem ag_421 : aggOf Tryz.prog 421 = some true := by kernel_rfl
theorem zc_421 : zcOf Tryz.prog 421 = some [.int .i64 0, .int .i64 0] := by kernel_rfl
theorem sa_421 : isAggOf Tryz.prog 421 = true := by kernel_rfl
theorem pl_421 : plOf Tryz.prog 421 = some [(0, 1), (1, 1)] := by kernel_rfl
theorem fo_421_0 : foOf Tryz.prog 421 0 = some 0 := by kernel_rfl
theorem fo_421_1 : foOf Tryz.prog 421 1 = some 1 := by kernel_rfl
theorem sz_425 : szOf Tryz.prog 425 = some 3 := by kernel_rfl
theorem ag_425 : aggOf Tryz.prog 425 = some true := by kernel_rfl
theorem zc_425 : zcOf Tryz.prog 425 = some [.slice none 0 0, .slice none 0 0, .int .i64 0] := by kernel_rfl
theorem sa_425 : isAggOf Tryz.prog 425 = true := by kernel_rfl
theorem pl_425 : plOf Tryz.prog 425 = some [(0, 1), (1, 1), (2, 1)] := by kernel_rfl
theorem fo_425_0 : foOf Tryz.prog 425 0 = some 0 := by kernel_rfl
theorem fo_425_1 : foOf Tryz.prog 425 1 = some 1 := by kernel_rfl
theorem fo_425_2 : foOf Tryz.prog 425 2 = some 2 := by kernel_rfl
theorem ag_457 : aggOf Tryz.prog 457 = some true := by kernel_rfl
theorem zc_457 : zcOf Tryz.prog 457 = some [] := by kernel_rfl
theorem sa_457 : isAggOf Tryz.prog 457 = true := by kernel_rfl
theorem pl_457 : plOf Tryz.prog 457 = some [] := by kernel_rfl
theorem ag_458 : aggOf Tryz.prog 458 = some true := by kernel_rfl
theorem zc_458 : zcOf Tryz.prog 458 = some [] := by kernel_rfl
theorem sa_458 : isAggOf Tryz.prog 458 = true := by kernel_rfl
theorem pl_458 : plOf Tryz.prog 458 = some [] := by kernel_rfl
theorem sz_479 : szOf Tryz.prog 479 = some 1 := by kernel_rfl
theorem ag_479 : aggOf Tryz.prog 479 = some false := by kernel_rfl
theorem zc_479 : zcOf Tryz.prog 479 = some [.pointer none] := by kernel_rfl
theorem sz_491 : szOf Tryz.prog 491 = some 3 := by kernel_rfl
theorem by_491 : byOf Tryz.prog 491 = some 24 := by kernel_rfl
theorem ag_491 : aggOf Tryz.prog 491 = some true := by kernel_rfl
theorem zc_491 : zcOf Tryz.prog 491 = some [.int .i64 0, .int .i64 0, .int .i64 0] := by kernel_rfl
theorem sa_491 : isAggOf Tryz.prog 491 = true := by kernel_rfl
theorem pl_491 : plOf Tryz.prog 491 = some [(0, 1), (1, 1), (2, 1)] := by kernel_rfl
theorem fo_491_2 : foOf Tryz.prog 491 2 = some 2 := by kernel_rfl
theorem zc_507 : zcOf Tryz.prog 507 = some [.int .i64 0, .int .i64 0, .int .i64 0, .int .i64 0, .int .i64 0, .int .i64 0, .int .i64 0, .int .i64 0, .int .i64 0, .int .i64 0, .int .i64 0, .int .i64 0, .int .i64 0, .int .i64 0, .int .i64 0, .int .i64 0, .int .i64 0, .int .i64 0, .int .i64 0, .int .i64 0, .int .i64 0] := by kernel_rfl
theorem sa_507 : isAggOf Tryz.prog 507 = true := by kernel_rfl
theorem pl_507 : plOf Tryz.prog 507 = some [(0, 3), (3, 3), (6, 3), (9, 3), (12, 3), (15, 3), (18, 3)] := by kernel_rfl
theorem zc_509 : zcOf Tryz.prog 509 = some [.int .i64 0, .int .i64 0, .int .i64 0, .int .i64 0, .int .i64 0, .int .i64 0, .int .i64 0, .slice none 0 0, .int .i64 0, .int .i64 0] := by kernel_rfl
theorem sa_509 : isAggOf Tryz.prog 509 = true := by kernel_rfl
theorem pl_509 : plOf Tryz.prog 509 = some [(0, 7), (7, 1), (8, 1), (9, 1)] := by kernel_rfl
theorem fo_509_0 : foOf Tryz.prog 509 0 = some 0 := by kernel_rfl
theorem fo_509_1 : foOf Tryz.prog 509 1 = some 7 := by kernel_rfl
theorem fo_509_2 : foOf Tryz.prog 509 2 = some 8 := by kernel_rfl
theorem fo_509_3 : foOf Tryz.prog 509 3 = some 9 := by kernel_rfl
theorem sz_514 : szOf Tryz.prog 514 = some 1 := by kernel_rfl
theorem ag_514 : aggOf Tryz.prog 514 = some false := by kernel_rfl
theorem sz_516 : szOf Tryz.prog 516 = some 3 := by kernel_rfl
theorem ag_516 : aggOf Tryz.prog 516 = some true := by kernel_rfl
theorem zc_516 : zcOf Tryz.prog 516 = some [.pointer none, .pointer none, .pointer none] := by kernel_rfl
theorem sa_516 : isAggOf Tryz.prog 516 = true := by kernel_rfl
theorem pl_516 : plOf Tryz.prog 516 = some [(0, 1), (1, 1), (2, 1)] := by kernel_rfl
theorem fo_516_0 : foOf Tryz.prog 516 0 = some 0 := by kernel_rfl
theorem fo_516_1 : foOf Tryz.prog 516 1 = some 1 := by kernel_rfl
theorem fo_516_2 : foOf Tryz.prog 516 2 = some 2 := by kernel_rfl
theorem sz_524 : szOf Tryz.prog 524 = some 2 := by kernel_rfl
theorem ag_524 : aggOf Tryz.prog 524 = some true := by kernel_rfl
theorem zc_524 : zcOf Tryz.prog 524 = some [.int .i64 0, .int .i64 0] := by kernel_rfl
theorem sa_524 : isAggOf Tryz.prog 524 = true := by kernel_rfl
theorem pl_524 : plOf Tryz.prog 524 = some [(0, 1), (1, 1)] := by kernel_rfl
theorem fo_524_0 : foOf Tryz.prog 524 0 = some 0 := by kernel_rfl
theorem fo_524_1 : foOf Tryz.prog 524 1 = some 1 := by kernel_rfl
theorem sz_541 : szOf Tryz.prog 541 = some 1 := by kernel_rfl
theorem ag_541 : aggOf Tryz.prog 541 = some false := by kernel_rfl
theorem sz_543 : szOf Tryz.prog 543 = some 6 := by kernel_rfl
theorem zc_543 : zcOf Tryz.prog 543 = some [.nilFunc, .nilFunc, .nilFunc, .nilFunc, .nilFunc, .nilFunc] := by kernel_rfl
theorem sa_543 : isAggOf Tryz.prog 543 = true := by kernel_rfl
theorem pl_543 : plOf Tryz.prog 543 = some [(0, 1), (1, 1), (2, 1), (3, 1), (4, 1), (5, 1)] := by kernel_rfl
theorem sz_545 : szOf Tryz.prog 545 = some 1 := by kernel_rfl
theorem ag_545 : aggOf Tryz.prog 545 = some false := by kernel_rfl
theorem zc_545 : zcOf Tryz.prog 545 = some [.pointer none] := by kernel_rfl
theorem fo_548_0 : foOf Tryz.prog 548 0 = some 0 := by kernel_rfl
theorem fo_548_1 : foOf Tryz.prog 548 1 = some 8 := by kernel_rfl
theorem zc_550 : zcOf Tryz.prog 550 = some [.int .i64 0, .int .i64 0, .int .i64 0, .int .i64 0, .int .i64 0, .int .i64 0, .int .i64 0, .int .i64 0, .int .i64 0, .int .i64 0, .int .i64 0, .int .i64 0, .int .i64 0, .int .i64 0, .int .i64 0, .int .i64 0, .int .i64 0, .int .i64 0, .slice none 0 0, .slice none 0 0, .int .i64 0] := by kernel_rfl
theorem sa_550 : isAggOf Tryz.prog 550 = true := by kernel_rfl
theorem pl_550 : plOf Tryz.prog 550 = some [(0, 9), (9, 9), (18, 3)] := by kernel_rfl
theorem fo_550_0 : foOf Tryz.prog 550 0 = some 0 := by kernel_rfl
theorem fo_550_1 : foOf Tryz.prog 550 1 = some 9 := by kernel_rfl
theorem fo_550_2 : foOf Tryz.prog 550 2 = some 18 := by kernel_rfl
theorem rn_21 : runs Tryz.prog 21 = true := by kernel_rfl
theorem rn_22 : runs Tryz.prog 22 = true := by kernel_rfl
theorem rn_23 : runs Tryz.prog 23 = true := by kernel_rfl
theorem rn_24 : runs Tryz.prog 24 = true := by kernel_rfl
theorem rn_25 : runs Tryz.prog 25 = true := by kernel_rfl
theorem rn_26 : runs Tryz.prog 26 = true := by kernel_rfl
theorem rn_27 : runs Tryz.prog 27 = true := by kernel_rfl
theorem rn_28 : runs Tryz.prog 28 = true := by kernel_rfl
theorem rn_47 : runs Tryz.prog 47 = true := by kernel_rfl
theorem rn_60 : runs Tryz.prog 60 = true := by kernel_rfl
theorem rn_61 : runs Tryz.prog 61 = true := by kernel_rfl
theorem rn_62 : runs Tryz.prog 62 = true := by kernel_rfl
theorem rn_63 : runs Tryz.prog 63 = true := by kernel_rfl
theorem rn_64 : runs Tryz.prog 64 = true := by kernel_rfl
theorem rn_65 : runs Tryz.prog 65 = true := by kernel_rfl
theorem rn_66 : runs Tryz.prog 66 = true := by kernel_rfl
theorem rn_67 : runs Tryz.prog 67 = true := by kernel_rfl
theorem rn_68 : runs Tryz.prog 68 = true := by kernel_rfl
theorem rn_69 : runs Tryz.prog 69 = true := by kernel_rfl
theorem rn_70 : runs Tryz.prog 70 = true := by kernel_rfl
theorem rn_71 : runs Tryz.prog 71 = true := by kernel_rfl
theorem rn_72 : runs Tryz.prog 72 = true := by kernel_rfl
theorem rn_73 : runs Tryz.prog 73 = true := by kernel_rfl
theorem rn_74 : runs Tryz.prog 74 = true := by kernel_rfl
theorem rn_75 : runs Tryz.prog 75 = true := by kernel_rfl
theorem rn_76 : runs Tryz.prog 76 = true := by kernel_rfl
theorem rn_90 : runs Tryz.prog 90 = true := by kernel_rfl
theorem rn_103 : runs Tryz.prog 103 = true := by kernel_rfl
theorem rn_108 : runs Tryz.prog 108 = true := by kernel_rfl
theorem rn_112 : runs Tryz.prog 112 = true := by kernel_rfl
theorem rn_129 : runs Tryz.prog 129 = true := by kernel_rfl
theorem rn_130 : runs Tryz.prog 130 = true := by kernel_rfl
theorem rn_131 : runs Tryz.prog 131 = true := by kernel_rfl
theorem rn_132 : runs Tryz.prog 132 = true := by kernel_rfl
theorem rn_133 : runs Tryz.prog 133 = true := by kernel_rfl
theorem rn_134 : runs Tryz.prog 134 = true := by kernel_rfl
theorem rn_135 : runs Tryz.prog 135 = true := by kernel_rfl
theorem rn_138 : runs Tryz.prog 138 = true := by kernel_rfl
theorem rn_139 : runs Tryz.prog 139 = true := by kernel_rfl
theorem rn_142 : runs Tryz.prog 142 = true := by kernel_rfl
theorem rn_145 : runs Tryz.prog 145 = true := by kernel_rfl
theorem rn_150 : runs Tryz.prog 150 = true := by kernel_rfl
theorem rn_158 : runs Tryz.prog 158 = true := by kernel_rfl
theorem rn_169 : runs Tryz.prog 169 = true := by kernel_rfl
theorem rn_170 : runs Tryz.prog 170 = true := by kernel_rfl
theorem rn_174 : runs Tryz.prog 174 = true := by kernel_rfl
theorem rn_175 : runs Tryz.prog 175 = true := by kernel_rfl
theorem rn_190 : runs Tryz.prog 190 = true := by kernel_rfl
theorem rn_191 : runs Tryz.prog 191 = true := by kernel_rfl
theorem rn_192 : runs Tryz.prog 192 = true := by kernel_rfl
theorem rn_193 : runs Tryz.prog 193 = true := by kernel_rfl
theorem rn_194 : runs Tryz.prog 194 = true := by kernel_rfl
theorem rn_201 : runs Tryz.prog 201 = true := by kernel_rfl
theorem rn_202 : runs Tryz.prog 202 = true := by kernel_rfl
theorem rn_204 : runs Tryz.prog 204 = true := by kernel_rfl
theorem rn_205 : runs Tryz.prog 205 = true := by kernel_rfl
theorem rn_206 : runs Tryz.prog 206 = true := by kernel_rfl
theorem rn_209 : runs Tryz.prog 209 = true := by kernel_rfl
theorem rn_217 : runs Tryz.prog 217 = true := by kernel_rfl
theorem rn_218 : runs Tryz.prog 218 = true := by kernel_rfl
theorem rn_229 : runs Tryz.prog 229 = true := by kernel_rfl
theorem rn_230 : runs Tryz.prog 230 = true := by kernel_rfl
theorem rn_231 : runs Tryz.prog 231 = true := by kernel_rfl
theorem rn_232 : runs Tryz.prog 232 = true := by kernel_rfl
theorem rn_235 : runs Tryz.prog 235 = true := by kernel_rfl
theorem rn_236 : runs Tryz.prog 236 = true := by kernel_rfl
theorem rn_237 : runs Tryz.prog 237 = true := by kernel_rfl
theorem rn_238 : runs Tryz.prog 238 = true := by kernel_rfl
theorem rn_239 : runs Tryz.prog 239 = true := by kernel_rfl
theorem rn_240 : runs Tryz.prog 240 = true := by kernel_rfl
theorem rn_242 : runs Tryz.prog 242 = true := by kernel_rfl
theorem rn_244 : runs Tryz.prog 244 = true := by kernel_rfl
theorem rn_245 : runs Tryz.prog 245 = true := by kernel_rfl
theorem rn_246 : runs Tryz.prog 246 = true := by kernel_rfl
theorem rn_248 : runs Tryz.prog 248 = true := by kernel_rfl
theorem rn_250 : runs Tryz.prog 250 = true := by kernel_rfl
theorem rn_254 : runs Tryz.prog 254 = true := by kernel_rfl
theorem rn_255 : runs Tryz.prog 255 = true := by kernel_rfl
theorem rn_265 : runs Tryz.prog 265 = true := by kernel_rfl
theorem rn_266 : runs Tryz.prog 266 = true := by kernel_rfl
theorem rn_267 : runs Tryz.prog 267 = true := by kernel_rfl
theorem rn_268 : runs Tryz.prog 268 = true := by kernel_rfl
theorem rn_270 : runs Tryz.prog 270 = true := by kernel_rfl
theorem rn_276 : runs Tryz.prog 276 = true := by kernel_rfl
theorem rn_277 : runs Tryz.prog 277 = true := by kernel_rfl
theorem rn_278 : runs Tryz.prog 278 = true := by kernel_rfl
theorem rn_279 : runs Tryz.prog 279 = true := by kernel_rfl
theorem rn_280 : runs Tryz.prog 280 = true := by kernel_rfl
theorem rn_281 : runs Tryz.prog 281 = true := by kernel_rfl
theorem rn_282 : runs Tryz.prog 282 = true := by kernel_rfl
theorem rn_283 : runs Tryz.prog 283 = true := by kernel_rfl
theorem rn_284 : runs Tryz.prog 284 = true := by kernel_rfl
theorem rn_285 : runs Tryz.prog 285 = true := by kernel_rfl
theorem rn_286 : runs Tryz.prog 286 = true := by kernel_rfl
theorem rn_287 : runs Tryz.prog 287 = true := by kernel_rfl
theorem rn_305 : runs Tryz.prog 305 = true := by kernel_rfl
theorem rn_309 : runs Tryz.prog 309 = true := by kernel_rfl
theorem rn_310 : runs Tryz.prog 310 = true := by kernel_rfl
theorem rn_311 : runs Tryz.prog 311 = true := by kernel_rfl
theorem rn_312 : runs Tryz.prog 312 = true := by kernel_rfl
theorem rn_313 : runs Tryz.prog 313 = true := by kernel_rfl
theorem rn_314 : runs Tryz.prog 314 = true := by kernel_rfl
theorem rn_315 : runs Tryz.prog 315 = true := by kernel_rfl
theorem rn_316 : runs Tryz.prog 316 = true := by kernel_rfl
theorem rn_317 : runs Tryz.prog 317 = true := by kernel_rfl
theorem rn_318 : runs Tryz.prog 318 = true := by kernel_rfl
theorem rn_319 : runs Tryz.prog 319 = true := by kernel_rfl
theorem rn_320 : runs Tryz.prog 320 = true := by kernel_rfl
theorem rn_321 : runs Tryz.prog 321 = true := by kernel_rfl
theorem rn_326 : runs Tryz.prog 326 = true := by kernel_rfl
theorem rn_327 : runs Tryz.prog 327 = true := by kernel_rfl
theorem rn_328 : runs Tryz.prog 328 = true := by kernel_rfl
theorem rn_329 : runs Tryz.prog 329 = true := by kernel_rfl
theorem rn_330 : runs Tryz.prog 330 = true := by kernel_rfl
theorem rn_331 : runs Tryz.prog 331 = true := by kernel_rfl
theorem rn_332 : runs Tryz.prog 332 = true := by kernel_rfl
theorem rn_333 : runs Tryz.prog 333 = true := by kernel_rfl
theorem rn_334 : runs Tryz.prog 334 = true := by kernel_rfl
theorem rn_335 : runs Tryz.prog 335 = true := by kernel_rfl
theorem rn_336 : runs Tryz.prog 336 = true := by kernel_rfl
theorem rn_337 : runs Tryz.prog 337 = true := by kernel_rfl
theorem rn_338 : runs Tryz.prog 338 = true := by kernel_rfl
theorem rn_339 : runs Tryz.prog 339 = true := by kernel_rfl
theorem rn_340 : runs Tryz.prog 340 = true := by kernel_rfl
theorem rn_341 : runs Tryz.prog 341 = true := by kernel_rfl
theorem rn_342 : runs Tryz.prog 342 = true := by kernel_rfl
theorem rn_343 : runs Tryz.prog 343 = true := by kernel_rfl
theorem rn_344 : runs Tryz.prog 344 = true := by kernel_rfl
theorem rn_345 : runs Tryz.prog 345 = true := by kernel_rfl
theorem rn_346 : runs Tryz.prog 346 = true := by kernel_rfl
theorem rn_349 : runs Tryz.prog 349 = true := by kernel_rfl
theorem rn_350 : runs Tryz.prog 350 = true := by kernel_rfl
theorem rn_351 : runs Tryz.prog 351 = true := by kernel_rfl
theorem rn_352 : runs Tryz.prog 352 = true := by kernel_rfl
theorem rn_353 : runs Tryz.prog 353 = true := by kernel_rfl
theorem rn_354 : runs Tryz.prog 354 = true := by kernel_rfl
theorem rn_355 : runs Tryz.prog 355 = true := by kernel_rfl
theorem rn_356 : runs Tryz.prog 356 = true := by kernel_rfl
theorem rn_365 : runs Tryz.prog 365 = true := by kernel_rfl
theorem rn_367 : runs Tryz.prog 367 = true := by kernel_rfl
theorem rn_368 : runs Tryz.prog 368 = true := by kernel_rfl
theorem rn_397 : runs Tryz.prog 397 = true := by kernel_rfl
theorem rn_398 : runs Tryz.prog 398 = true := by kernel_rfl
theorem rn_399 : runs Tryz.prog 399 = true := by kernel_rfl
theorem rn_400 : runs Tryz.prog 400 = true := by kernel_rfl
theorem hm : Tryz.prog.follows .mixedOrders = true := by kernel_rfl
end Go.Proofs.YtpbflnfcgcldkaaGreatDoor
/- Formats, tracks, and the bands of one track, walked. -/
namespace Go.Proofs.YtpbflnfcgcldkaaGreatDoor.Side
open Go.Sx Go.Proofs Go.RowKit
structure Fmt where
  nm : ByteArray
  outer : Int
  inner : Int
  per : Int
  lead : Int
  gap : Int
  tail : Int
  cost : Int
abbrev Fmt.cells (f : Fmt) : List Value := [.string f.nm, I f.outer, I f.inner, I f.per, I f.lead, I f.gap, I f.tail, I f.cost]
abbrev Fmt.val (f : Fmt) : Value := .agg #[.string f.nm, I f.outer, I f.inner, I f.per, I f.lead, I f.gap, I f.tail, I f.cost]
def alB (b : Int) : Prop := (97 ≤ b ∧ b ≤ 122) ∨ (48 ≤ b ∧ b ≤ 57)
def NmOk (s : ByteArray) : Prop := (1 ≤ s.size ∧ s.size ≤ 20) ∧ ∀ i, i < s.size → alB ((byz s).getD i default).toNat
structure Fmt.Ok (f : Fmt) : Prop where
  nm : NmOk f.nm
  outer : 1 ≤ f.outer ∧ f.outer ≤ 4194304
  inner : 0 ≤ f.inner ∧ f.inner ≤ f.outer - 1
  per : 1 ≤ f.per ∧ f.per ≤ 65536
  lead : 0 ≤ f.lead ∧ f.lead ≤ 4194304
  gap : 0 ≤ f.gap ∧ f.gap ≤ 4194304
  tail : 0 ≤ f.tail ∧ f.tail ≤ 4194304
  cost : 0 ≤ f.cost ∧ f.cost ≤ 1048576
theorem getD_memT {α : Type} [Inhabited α] {l : List α} {i : Nat} (h : i < l.length) : l.getD i default ∈ l := by simp [List.getD, h]
structure Trk where
  long : Int
  pitch : Int
  least : Int
instance : Inhabited Trk := ⟨⟨0, 0, 0⟩⟩
def eTrk (t : Trk) : List Value := [I t.long, I t.pitch, I t.least]
structure Trk.Ok (t : Trk) : Prop where
  long : 1 ≤ t.long ∧ t.long ≤ 16777216
  pitch : 1 ≤ t.pitch ∧ t.pitch ≤ 4096
  least : 0 ≤ t.least ∧ t.least ≤ 4194304
section
variable {w : World} {A A2 : Option Addr} {c c2 : Nat}
theorem C_outside {n lo hi : Int} (h : lo ≤ n ∧ n ≤ hi) : Con0 Tryz.prog 202 [I n, I lo, I hi] w (.bool false) := by
  refine Ret_of (vs := [_, _, _]) hm none' Tryz.func202 rfl Tryz.ntmps202 rfl ?_
  dsimp only [slotsOf]
  refine GE_seq ?_;refine GE_plain (.st 0 .nil) rfl ?_;refine GT_st rfl rfl rfl rfl (V_assign rfl rfl) ?_;refine GT_nil ?_;refine GE_seq ?_;refine GE_plain (.st 0 (.st 1 (.st 2 (.st 3 (.st 4 (.st 5 (.st 6 (.st 7 (.st 8 .nil))))))))) rfl ?_;refine GT_st rfl rfl rfl rfl (V_move rfl rfl) ?_;refine GT_st rfl rfl rfl rfl (V_move rfl rfl) ?_;refine GT_st rfl rfl rfl rfl (V_lss rfl rfl rfl) ?_;refine GT_st rfl rfl rfl rfl (V_move rfl rfl) ?_;refine GT_split (d := 10) rfl (fun h1 => ?_) (fun h1 => ?_)
  · refine GT_skip rfl rfl rfl rfl rfl (by decide) rfl rfl ?_;refine GT_skip rfl rfl rfl rfl rfl (by decide) rfl rfl ?_;refine GT_skip rfl rfl rfl rfl rfl (by decide) rfl rfl ?_;refine GT_st rfl rfl rfl rfl (V_pick_t rfl rfl rfl) ?_;refine GT_st rfl rfl rfl rfl (V_assign rfl rfl) ?_;refine GT_nil ?_;refine GE_ret Tryz.func202 rfl (fun w hw => ⟨?_, hw.nil⟩)
    refine congrArg Value.bool ?_; simp; omega
  · refine GT_st_g rfl rfl rfl rfl rfl rfl rfl (V_move rfl rfl) ?_;refine GT_st_g rfl rfl rfl rfl rfl rfl rfl (V_move rfl rfl) ?_;refine GT_st_g rfl rfl rfl rfl rfl rfl rfl (V_gtr rfl rfl rfl) ?_;refine GT_st rfl rfl rfl rfl (V_pick_f rfl rfl rfl) ?_;refine GT_st rfl rfl rfl rfl (V_assign rfl rfl) ?_;refine GT_nil ?_;refine GE_ret Tryz.func202 rfl (fun w hw => ⟨?_, hw.nil⟩)
    refine congrArg Value.bool ?_; simp; omega
theorem C_isName {s : ByteArray} (h : NmOk s) : Con0 Tryz.prog 201 [.string s] w (.bool true) := by
  obtain ⟨h1, hb⟩ := h
  have hl := byz_len s
  refine Ret_of (vs := [_]) hm none' Tryz.func201 rfl Tryz.ntmps201 rfl ?_
  dsimp only [slotsOf]
  refine GE_seq ?_;refine GE_plain (.st 0 .nil) rfl ?_;refine GT_st rfl rfl rfl rfl (V_assign rfl rfl) ?_;refine GT_nil ?_;refine GE_seq ?_;refine GE_seq ?_;refine GE_plain (.st 0 (.ld 1 [] (.st 2 (.st 3 .nil)))) rfl ?_;refine GT_st rfl rfl rfl rfl (V_move rfl rfl) ?_;refine GT_strBytes rfl rfl rfl rfl rfl rfl Tryz.underlying9 Tryz.underlying221 Tryz.underlying5 (fun _ _ _ _ => GR_nil) (fun b6 c6 I6 hI6 => ?_)
  refine GT_st rfl rfl rfl rfl (V_len rfl Tryz.underlying221 rfl) ?_;refine GT_st rfl rfl rfl rfl (V_move rfl rfl) ?_;refine GT_nil ?_;refine GE_block ?_;refine GE_to (GE_loop (ι := Nat) (fun k => s.size - k) (fun k => [(0, .string s), (6, .slice (some ⟨b6, 0, none⟩) (byz s).length c6), (7, I (byz s).length), (8, I k)]) (fun k => I6) (fun k => k ≤ s.size) ?_ 0 ?_) ⟨rfl, rfl, rfl, rfl, trivial⟩ HS.last
  · intro k hk ih
    refine GE_seq ?_;refine GE_plain (.st 0 .nil) rfl ?_;refine GT_st rfl rfl rfl rfl (V_lss rfl rfl rfl) ?_;refine GT_nil ?_;refine GE_seq ?_;refine GE_cond rfl (fun q1 => ?_) (fun q1 => ?_)
    · have hkl : k < s.size := (by omega); have hbk := hb k hkl; unfold alB at hbk
      refine GE_skip ?_;refine GE_seq ?_;refine GE_block ?_;refine GE_seq ?_;refine GE_plain (.st 0 (.st 1 (.st 2 .nil))) rfl ?_;refine GT_st rfl rfl rfl rfl (V_index rfl rfl rfl Tryz.underlying221 sz_5 (k := k) rfl (by omega) rfl) ?_;refine GT_st rfl rfl rfl rfl (V_load rfl rfl ag_5 (CellAt.rdH0 (fun w m => RowB.rd hI6 m) (by omega) rfl)) ?_;refine GT_st rfl rfl rfl rfl (V_assign rfl rfl) ?_;refine GT_nil ?_;refine GE_seq ?_;refine GE_plain (.st 0 (.st 1 (.st 2 (.st 3 (.st 4 (.st 5 (.st 6 (.st 7 (.st 8 (.st 9 (.st 10 (.st 11 (.st 12 (.st 13 .nil)))))))))))))) rfl ?_;refine GT_st rfl rfl rfl rfl (V_move rfl rfl) ?_;refine GT_st rfl rfl rfl rfl (V_lss rfl rfl rfl) ?_;refine GT_st rfl rfl rfl rfl (V_move rfl rfl) ?_;refine GT_split (d := 14) rfl (fun q2 => ?_) (fun q2 => ?_)
      · refine GT_skip rfl rfl rfl rfl rfl (by decide) rfl rfl ?_;refine GT_skip rfl rfl rfl rfl rfl (by decide) rfl rfl ?_;refine GT_st rfl rfl rfl rfl (V_pick_t rfl rfl rfl) ?_;refine GT_st rfl rfl rfl rfl (V_move rfl rfl) ?_;refine GT_st_g rfl rfl rfl rfl rfl rfl rfl (V_move rfl rfl) ?_;refine GT_st_g rfl rfl rfl rfl rfl rfl rfl (V_isF (V_lss rfl rfl rfl) (by omega)) ?_;refine GT_st_g rfl rfl rfl rfl rfl rfl rfl (V_move rfl rfl) ?_;refine GT_st_g rfl rfl rfl rfl rfl rfl rfl (V_move rfl rfl) ?_;refine GT_st_g rfl rfl rfl rfl rfl rfl rfl (V_isF (V_gtr rfl rfl rfl) (by omega)) ?_;refine GT_st_g rfl rfl rfl rfl rfl rfl rfl (V_pick_f rfl rfl rfl) ?_;refine GT_st rfl rfl rfl rfl (V_pick_t rfl rfl rfl) ?_;refine GT_nil ?_;refine GE_cond_f rfl ?_;refine GE_skip ?_;refine GE_inBlock ?_;refine GE_slots (L' := [(0, _), (6, _), (7, _), (8, _), (15, _), (16, _), (19, _), (20, _), (21, _), (22, _), (23, _), (24, _)]) ⟨rfl, rfl, rfl, rfl, rfl, rfl, rfl, rfl, rfl, rfl, rfl, rfl, trivial⟩ ?_;refine GE_plain (.st 0 (.ld 1 [] .nil)) rfl ?_;refine GT_st rfl rfl rfl rfl (V_add rfl rfl rfl (wrap_i64 (by omega))) ?_;refine GT_ldv rfl rfl rfl rfl rfl (V_move rfl rfl) (GR_nil) ?_;refine GT_nil ?_
        exact GE_to (ih (k + 1) (by omega) (by omega)) ⟨rfl, rfl, rfl, rfl, trivial⟩ HS.last
      · refine GT_st_g rfl rfl rfl rfl rfl rfl rfl (V_move rfl rfl) ?_;refine GT_st_g rfl rfl rfl rfl rfl rfl rfl (V_isF (V_gtr rfl rfl rfl) (by omega)) ?_;refine GT_st rfl rfl rfl rfl (V_pick_f rfl rfl rfl) ?_;refine GT_st rfl rfl rfl rfl (V_move rfl rfl) ?_;refine GT_skip rfl rfl rfl rfl rfl (by decide) rfl rfl ?_;refine GT_skip rfl rfl rfl rfl rfl (by decide) rfl rfl ?_;refine GT_skip rfl rfl rfl rfl rfl (by decide) rfl rfl ?_;refine GT_skip rfl rfl rfl rfl rfl (by decide) rfl rfl ?_;refine GT_skip rfl rfl rfl rfl rfl (by decide) rfl rfl ?_;refine GT_skip rfl rfl rfl rfl rfl (by decide) rfl rfl ?_;refine GT_st rfl rfl rfl rfl (V_pick_f rfl rfl rfl) ?_;refine GT_nil ?_;refine GE_cond_f rfl ?_;refine GE_skip ?_;refine GE_inBlock ?_;refine GE_slots (L' := [(0, _), (6, _), (7, _), (8, _), (15, _), (16, _), (19, _), (20, _), (21, _), (22, _), (23, _), (24, _)]) ⟨rfl, rfl, rfl, rfl, rfl, rfl, rfl, rfl, rfl, rfl, rfl, rfl, trivial⟩ ?_;refine GE_plain (.st 0 (.ld 1 [] .nil)) rfl ?_;refine GT_st rfl rfl rfl rfl (V_add rfl rfl rfl (wrap_i64 (by omega))) ?_;refine GT_ldv rfl rfl rfl rfl rfl (V_move rfl rfl) (GR_nil) ?_;refine GT_nil ?_
        exact GE_to (ih (k + 1) (by omega) (by omega)) ⟨rfl, rfl, rfl, rfl, trivial⟩ HS.last
    · refine GE_exit rfl ?_;refine GE_seq ?_;refine GE_slots (L' := [(0, _)]) ⟨rfl, trivial⟩ ?_;refine GE_plain (.st 0 (.st 1 (.st 2 (.st 3 (.st 4 (.st 5 (.st 6 (.st 7 .nil)))))))) rfl ?_;refine GT_st rfl rfl rfl rfl (V_move rfl rfl) ?_;refine GT_st rfl rfl rfl rfl (V_isT (V_neqStr rfl rfl rfl) (by rintro rfl; exact absurd h1.1 (by decide))) ?_;refine GT_st rfl rfl rfl rfl (V_move rfl rfl) ?_;refine GT_st_g rfl rfl rfl rfl rfl rfl rfl (V_move rfl rfl) ?_;refine GT_st_g rfl rfl rfl rfl rfl rfl rfl (V_len_str rfl Tryz.underlying9 rfl) ?_;refine GT_st_g rfl rfl rfl rfl rfl rfl rfl (V_leq rfl rfl rfl) ?_;refine GT_st rfl rfl rfl rfl (V_pick_t rfl rfl rfl) ?_;refine GT_st rfl rfl rfl rfl (V_assign rfl rfl) ?_;refine GT_nil ?_;refine GE_ret Tryz.func201 rfl (fun w hw => ⟨?_, hw.nil⟩)
      refine congrArg Value.bool ?_; simp; omega
  · exact Nat.zero_le _
theorem C_CheckFormat {f : Fmt} (h : f.Ok) : Con0 Tryz.prog 138 [f.val] w (I 0) := by
  obtain ⟨h1, h2, h3, h4, h5, h6, h7, h8⟩ := h
  refine Ret_of (vs := [_]) hm none' Tryz.func138 rfl Tryz.ntmps138 rfl ?_
  dsimp only [slotsOf]
  refine GE_seq ?_;refine GE_plain (.ld 0 [] (.st 1 .nil)) rfl ?_;refine GT_box (z := [_, _, _, _, _, _, _, _]) rfl rfl rfl rfl rfl rfl rfl (fun _ => GR_nil) (fun b1 => ?_)
  refine GT_st rfl rfl rfl rfl (V_assign rfl rfl) ?_;refine GT_nil ?_;refine GE_seq ?_;refine GE_plain (.st 0 (.st 1 (.ld 2 [] (.st 3 (.st 4 (.st 5 (.st 6 (.ld 7 [] (.st 8 (.st 9 (.st 10 (.st 11 (.st 12 (.st 13 (.st 14 (.ld 15 [] (.st 16 (.st 17 (.st 18 (.st 19 (.ld 20 [] (.st 21 (.st 22 (.st 23 (.st 24 (.ld 25 [] (.st 26 (.st 27 .nil)))))))))))))))))))))))))))) rfl ?_;refine GT_st rfl rfl rfl rfl (V_field rfl rfl fo_77_0) ?_;refine GT_st rfl rfl rfl rfl (V_load rfl rfl ag_9 (CellAt.item rfl)) ?_;refine GT_call0 rfl rfl rfl rfl rfl rfl rfl rfl rn_201 (fun w hw => C_isName h1) (GR_nil) ?_;refine GT_st rfl rfl rfl rfl (V_notB rfl rfl) ?_;refine GT_st rfl rfl rfl rfl (V_move rfl rfl) ?_;refine GT_st_g rfl rfl rfl rfl rfl rfl rfl (V_field rfl rfl fo_77_1) ?_;refine GT_st_g rfl rfl rfl rfl rfl rfl rfl (V_load rfl rfl ag_2 (CellAt.item rfl)) ?_;refine GT_call0_g rfl rfl rfl rfl rfl rfl rfl rfl rfl rfl rfl rn_202 (fun w hw => C_outside h2) (GR_nil) ?_;refine GT_st rfl rfl rfl rfl (V_pick_f rfl rfl rfl) ?_;refine GT_st rfl rfl rfl rfl (V_move rfl rfl) ?_;refine GT_st_g rfl rfl rfl rfl rfl rfl rfl (V_field rfl rfl fo_77_2) ?_;refine GT_st_g rfl rfl rfl rfl rfl rfl rfl (V_load rfl rfl ag_2 (CellAt.item rfl)) ?_;refine GT_st_g rfl rfl rfl rfl rfl rfl rfl (V_field rfl rfl fo_77_1) ?_;refine GT_st_g rfl rfl rfl rfl rfl rfl rfl (V_load rfl rfl ag_2 (CellAt.item rfl)) ?_;refine GT_st_g rfl rfl rfl rfl rfl rfl rfl (V_sub rfl rfl rfl (wrap_i64 (by omega))) ?_;refine GT_call0_g rfl rfl rfl rfl rfl rfl rfl rfl rfl rfl rfl rn_202 (fun w hw => C_outside h3) (GR_nil) ?_;refine GT_st rfl rfl rfl rfl (V_pick_f rfl rfl rfl) ?_;refine GT_st rfl rfl rfl rfl (V_move rfl rfl) ?_;refine GT_st_g rfl rfl rfl rfl rfl rfl rfl (V_field rfl rfl fo_77_3) ?_
  refine GT_st_g rfl rfl rfl rfl rfl rfl rfl (V_load rfl rfl ag_2 (CellAt.item rfl)) ?_;refine GT_call0_g rfl rfl rfl rfl rfl rfl rfl rfl rfl rfl rfl rn_202 (fun w hw => C_outside h4) (GR_nil) ?_;refine GT_st rfl rfl rfl rfl (V_pick_f rfl rfl rfl) ?_;refine GT_st rfl rfl rfl rfl (V_move rfl rfl) ?_;refine GT_st_g rfl rfl rfl rfl rfl rfl rfl (V_field rfl rfl fo_77_7) ?_;refine GT_st_g rfl rfl rfl rfl rfl rfl rfl (V_load rfl rfl ag_2 (CellAt.item rfl)) ?_;refine GT_call0_g rfl rfl rfl rfl rfl rfl rfl rfl rfl rfl rfl rn_202 (fun w hw => C_outside h8) (GR_nil) ?_;refine GT_st rfl rfl rfl rfl (V_pick_f rfl rfl rfl) ?_;refine GT_st rfl rfl rfl rfl (V_assign rfl rfl) ?_;refine GT_nil ?_;refine GE_seq ?_;refine GE_seq ?_;refine GE_slots (L' := [(1, _), (3, _)]) ⟨rfl, rfl, trivial⟩ ?_;refine GE_plain (.st 0 (.st 1 (.st 2 (.st 3 (.st 4 (.st 5 (.st 6 (.st 7 .nil)))))))) rfl ?_;refine GT_st rfl rfl rfl rfl (V_field rfl rfl fo_77_4) ?_;refine GT_st rfl rfl rfl rfl (V_load rfl rfl ag_2 (CellAt.item rfl)) ?_;refine GT_st rfl rfl rfl rfl (V_field rfl rfl fo_77_5) ?_;refine GT_st rfl rfl rfl rfl (V_load rfl rfl ag_2 (CellAt.item rfl)) ?_;refine GT_st rfl rfl rfl rfl (V_field rfl rfl fo_77_6) ?_;refine GT_st rfl rfl rfl rfl (V_load rfl rfl ag_2 (CellAt.item rfl)) ?_;refine GT_st rfl rfl rfl rfl (V_build (vs := [_, _, _]) rfl rfl zc_349 pl_349 sa_349 rfl) ?_;refine GT_st rfl rfl rfl rfl (V_move rfl rfl) ?_;refine GT_nil ?_;refine GE_block ?_;refine GE_to (GE_loop (ι := Nat) (fun k => 3 - k) (fun k => [(3, .bool false), (39, .agg #[I f.lead, I f.gap, I f.tail]), (40, I k)]) (fun k => []) (fun k => k ≤ 3) ?_ 0 ?_) ⟨rfl, rfl, rfl, trivial⟩ HS.nil
  · intro k hk ih
    refine GE_seq ?_;refine GE_plain (.st 0 .nil) rfl ?_;refine GT_st rfl rfl rfl rfl (V_lss rfl rfl rfl) ?_;refine GT_nil ?_;refine GE_seq ?_;refine GE_cond rfl (fun q1 => ?_) (fun q1 => ?_)
    · have hk3 : k < 3 := (by omega)
      refine GE_skip ?_;refine GE_seq ?_;refine GE_block ?_;refine GE_seq ?_;refine GE_plain (.st 0 (.st 1 .nil)) rfl ?_;refine GT_st rfl rfl rfl rfl (V_indexAgg rfl rfl rfl Tryz.underlying349 ag_2 sz_2 (kk := k) rfl (by omega) (show _ = some (I ([f.lead, f.gap, f.tail].getD k 0)) by rcases (show k = 0 ∨ k = 1 ∨ k = 2 by omega) with rfl | rfl | rfl <;> rfl)) ?_;refine GT_st rfl rfl rfl rfl (V_assign rfl rfl) ?_;refine GT_nil ?_;refine GE_plain (.st 0 (.st 1 (.st 2 (.ld 3 [] (.st 4 (.ld 5 [] .nil)))))) rfl ?_;refine GT_st rfl rfl rfl rfl (V_move rfl rfl) ?_;refine GT_st rfl rfl rfl rfl (V_move rfl rfl) ?_;refine GT_st_g rfl rfl rfl rfl rfl rfl rfl (V_move rfl rfl) ?_;refine GT_call0_g rfl rfl rfl rfl rfl rfl rfl rfl rfl rfl rfl rn_202 (fun w hw => C_outside (n := [f.lead, f.gap, f.tail].getD k 0) (by rcases (show k = 0 ∨ k = 1 ∨ k = 2 by omega) with rfl | rfl | rfl; exact h5; exact h6; exact h7)) (GR_nil) ?_;refine GT_st rfl rfl rfl rfl (V_pick_f rfl rfl rfl) ?_;refine GT_ldv rfl rfl rfl rfl rfl (V_assign rfl rfl) (GR_nil) ?_;refine GT_nil ?_;refine GE_inBlock ?_;refine GE_slots (L' := [(3, _), (39, _), (40, _), (45, _), (46, _)]) ⟨rfl, rfl, rfl, rfl, rfl, trivial⟩ ?_;refine GE_plain (.st 0 (.ld 1 [] .nil)) rfl ?_;refine GT_st rfl rfl rfl rfl (V_add rfl rfl rfl (wrap_i64 (by omega))) ?_;refine GT_ldv rfl rfl rfl rfl rfl (V_move rfl rfl) (GR_nil) ?_;refine GT_nil ?_
      exact GE_to (ih (k + 1) (by omega) (by omega)) ⟨rfl, rfl, rfl, trivial⟩ HS.nil
    · refine GE_exit rfl ?_;refine GE_seq ?_;refine GE_seq ?_;refine GE_plain (.st 0 .nil) rfl ?_;refine GT_st rfl rfl rfl rfl (V_move rfl rfl) ?_;refine GT_nil ?_;refine GE_cond_f rfl ?_;refine GE_skip ?_;refine GE_seq ?_;refine GE_slots (L' := []) trivial ?_;refine GE_plain (.st 0 .nil) rfl ?_;refine GT_st rfl rfl rfl rfl (V_assign rfl rfl) ?_;refine GT_nil ?_;refine GE_ret Tryz.func138 rfl (fun w hw => ⟨?_, hw.nil⟩)
      rfl
  · exact Nat.zero_le _
theorem C_CheckTracks {l : List Trk} (h : RdL w 3 eTrk A l) (hl : l.length ≤ 24) (ho : ∀ t ∈ l, t.Ok) : Con0 Tryz.prog 139 [.slice A l.length c] w (I 0) := by
  refine Ret_of (vs := [_]) hm none' Tryz.func139 rfl Tryz.ntmps139 rfl ?_
  dsimp only [slotsOf]
  refine GE_seq ?_;refine GE_plain (.st 0 .nil) rfl ?_;refine GT_st rfl rfl rfl rfl (V_assign rfl rfl) ?_;refine GT_nil ?_;refine GE_seq ?_;refine GE_seq ?_;refine GE_plain (.st 0 (.st 1 (.st 2 .nil))) rfl ?_;refine GT_st rfl rfl rfl rfl (V_move rfl rfl) ?_;refine GT_st rfl rfl rfl rfl (V_len rfl Tryz.underlying95 rfl) ?_;refine GT_st rfl rfl rfl rfl (V_isF (V_gtr rfl rfl rfl) (by omega)) ?_;refine GT_nil ?_;refine GE_cond_f rfl ?_;refine GE_skip ?_;refine GE_seq ?_;refine GE_seq ?_;refine GE_slots (L' := [(0, _)]) ⟨rfl, trivial⟩ ?_;refine GE_plain (.st 0 (.st 1 (.st 2 .nil))) rfl ?_;refine GT_st rfl rfl rfl rfl (V_move rfl rfl) ?_;refine GT_st rfl rfl rfl rfl (V_len rfl Tryz.underlying95 rfl) ?_;refine GT_st rfl rfl rfl rfl (V_move rfl rfl) ?_;refine GT_nil ?_;refine GE_block ?_;refine GE_to (GE_loop (ι := Nat) (fun k => l.length - k) (fun k => [(8, .slice A l.length c), (9, I l.length), (10, I k)]) (fun k => []) (fun k => k ≤ l.length) ?_ 0 ?_) ⟨rfl, rfl, rfl, trivial⟩ HS.nil
  · intro k hk ih
    refine GE_seq ?_;refine GE_plain (.st 0 .nil) rfl ?_;refine GT_st rfl rfl rfl rfl (V_lss rfl rfl rfl) ?_;refine GT_nil ?_;refine GE_seq ?_;refine GE_cond rfl (fun q1 => ?_) (fun q1 => ?_)
    · have hkl : k < l.length := (by omega); have hok := ho _ (getD_memT hkl)
      refine GE_skip ?_;refine GE_seq ?_;refine GE_block ?_;refine GE_seq ?_;refine GE_plain (.st 0 (.st 1 (.ld 2 [] (.ld 3 [] .nil)))) rfl ?_;refine GT_st rfl rfl rfl rfl (V_index rfl rfl rfl Tryz.underlying95 sz_301 (k := k) rfl hkl (h.isSome hkl)) ?_;refine GT_st rfl rfl rfl rfl (V_loadN (vs := [_, _, _]) rfl rfl ag_301 sz_301 rfl (show CellsAt _ _ _ (eTrk (l.getD k default)) from h.ats noM hkl)) ?_;refine GT_alloc rfl rfl rfl rfl rfl zc_301 (fun _ => GR_nil) (fun b4 => ?_)
      refine GT_store (vs := [_, _, _]) (l' := [_, _, _]) rfl rfl rfl rfl rfl rfl rfl sz_301 rfl rfl (Nat.le_of_ble_eq_true rfl) rfl (GR_nil) ?_;refine GT_nil ?_;refine GE_seq ?_;refine GE_plain (.st 0 (.st 1 (.ld 2 [] (.st 3 (.st 4 (.st 5 (.ld 6 [] (.st 7 (.st 8 (.st 9 (.st 10 (.ld 11 [] (.st 12 .nil))))))))))))) rfl ?_;refine GT_st rfl rfl rfl rfl (V_field rfl rfl fo_301_0) ?_;refine GT_st rfl rfl rfl rfl (V_load rfl rfl ag_2 (CellAt.item rfl)) ?_;refine GT_call0 rfl rfl rfl rfl rfl rfl rfl rfl rn_202 (fun w hw => C_outside hok.long) (GR_nil) ?_;refine GT_st rfl rfl rfl rfl (V_move rfl rfl) ?_;refine GT_st_g rfl rfl rfl rfl rfl rfl rfl (V_field rfl rfl fo_301_1) ?_;refine GT_st_g rfl rfl rfl rfl rfl rfl rfl (V_load rfl rfl ag_2 (CellAt.item rfl)) ?_;refine GT_call0_g rfl rfl rfl rfl rfl rfl rfl rfl rfl rfl rfl rn_202 (fun w hw => C_outside hok.pitch) (GR_nil) ?_;refine GT_st rfl rfl rfl rfl (V_pick_f rfl rfl rfl) ?_;refine GT_st rfl rfl rfl rfl (V_move rfl rfl) ?_;refine GT_st_g rfl rfl rfl rfl rfl rfl rfl (V_field rfl rfl fo_301_2) ?_;refine GT_st_g rfl rfl rfl rfl rfl rfl rfl (V_load rfl rfl ag_2 (CellAt.item rfl)) ?_;refine GT_call0_g rfl rfl rfl rfl rfl rfl rfl rfl rfl rfl rfl rn_202 (fun w hw => C_outside hok.least) (GR_nil) ?_;refine GT_st rfl rfl rfl rfl (V_pick_f rfl rfl rfl) ?_;refine GT_nil ?_;refine GE_cond_f rfl ?_;refine GE_skip ?_;refine GE_inBlock ?_;refine GE_slots (L' := [(8, _), (9, _), (10, _), (18, _), (19, _), (20, _), (23, _), (24, _), (25, _)]) ⟨rfl, rfl, rfl, rfl, rfl, rfl, rfl, rfl, rfl, trivial⟩ ?_;refine GE_plain (.st 0 (.ld 1 [] .nil)) rfl ?_;refine GT_st rfl rfl rfl rfl (V_add rfl rfl rfl (wrap_i64 (by omega))) ?_;refine GT_ldv rfl rfl rfl rfl rfl (V_move rfl rfl) (GR_nil) ?_;refine GT_nil ?_
      exact GE_to (ih (k + 1) (by omega) (by omega)) ⟨rfl, rfl, rfl, trivial⟩ HS.nil
    · refine GE_exit rfl ?_;refine GE_seq ?_;refine GE_slots (L' := []) trivial ?_;refine GE_plain (.st 0 .nil) rfl ?_;refine GT_st rfl rfl rfl rfl (V_assign rfl rfl) ?_;refine GT_nil ?_;refine GE_ret Tryz.func139 rfl (fun w hw => ⟨?_, hw.nil⟩)
      rfl
  · exact Nat.zero_le _
abbrev plC (f : Fmt) (A : Option Addr) (n c : Nat) : List Value := [.string f.nm, I f.outer, I f.inner, I f.per, I f.lead, I f.gap, I f.tail, I f.cost, .slice A n c]
theorem C_open {f : Fmt} {l : List Trk} (hf : f.Ok) (h : RdL w 3 eTrk A l) (hl : l.length ≤ 24) (ho : ∀ t ∈ l, t.Ok) : Con Tryz.prog 235 [f.val, .slice A l.length c] w (fun _ : Nat => True) (fun b => .tuple #[ptr b 0, I 0]) (fun b => [(b, blk (plC f A l.length c) 304)]) := by
  refine Ret_of (vs := [_, _]) hm none' Tryz.func235 rfl Tryz.ntmps235 rfl ?_
  dsimp only [slotsOf]
  refine GE_seq ?_;refine GE_plain (.ld 0 [] (.st 1 (.st 2 .nil))) rfl ?_;refine GT_box (z := [_, _, _, _, _, _, _, _]) rfl rfl rfl rfl rfl rfl rfl (fun _ => GR_nil) (fun b2 => ?_)
  refine GT_st rfl rfl rfl rfl (V_assign rfl rfl) ?_;refine GT_st rfl rfl rfl rfl (V_assign rfl rfl) ?_;refine GT_nil ?_;refine GE_seq ?_;refine GE_seq ?_;refine GE_plain (.st 0 (.ld 1 [] (.st 2 .nil))) rfl ?_;refine GT_st rfl rfl rfl rfl (V_loadN (vs := [_, _, _, _, _, _, _, _]) rfl rfl ag_77 sz_77 rfl (CellsAt.item rfl)) ?_;refine GT_call0 rfl rfl rfl rfl rfl rfl rfl rfl rn_138 (fun w hw => C_CheckFormat hf) (GR_nil) ?_;refine GT_st rfl rfl rfl rfl (V_assign rfl rfl) ?_;refine GT_nil ?_;refine GE_seq ?_;refine GE_slots (L' := [(1, _), (2, _), (6, _)]) ⟨rfl, rfl, rfl, trivial⟩ ?_;refine GE_plain (.st 0 (.st 1 .nil)) rfl ?_;refine GT_st rfl rfl rfl rfl (V_move rfl rfl) ?_;refine GT_st rfl rfl rfl rfl (V_isF (V_neq rfl rfl rfl) (fun q => q rfl)) ?_;refine GT_nil ?_;refine GE_cond_f rfl ?_;refine GE_skip ?_;refine GE_seq ?_;refine GE_seq ?_;refine GE_plain (.st 0 (.ld 1 [] (.st 2 .nil))) rfl ?_;refine GT_st rfl rfl rfl rfl (V_move rfl rfl) ?_;refine GT_call0 rfl rfl rfl rfl rfl rfl rfl rfl rn_139 (fun w hw => C_CheckTracks (h.sh hw) hl ho) (GR_nil) ?_;refine GT_st rfl rfl rfl rfl (V_assign rfl rfl) ?_;refine GT_nil ?_;refine GE_seq ?_;refine GE_slots (L' := [(1, _), (2, _), (7, _)]) ⟨rfl, rfl, rfl, trivial⟩ ?_;refine GE_plain (.st 0 (.st 1 .nil)) rfl ?_;refine GT_st rfl rfl rfl rfl (V_move rfl rfl) ?_;refine GT_st rfl rfl rfl rfl (V_isF (V_neq rfl rfl rfl) (fun q => q rfl)) ?_;refine GT_nil ?_;refine GE_cond_f rfl ?_;refine GE_skip ?_;refine GE_seq ?_;refine GE_plain (.st 0 (.st 1 (.st 2 (.ld 3 [] (.st 4 (.st 5 .nil)))))) rfl ?_;refine GT_st rfl rfl rfl rfl (V_loadN (vs := [_, _, _, _, _, _, _, _]) rfl rfl ag_77 sz_77 rfl (CellsAt.item rfl)) ?_;refine GT_st rfl rfl rfl rfl (V_move rfl rfl) ?_
  refine GT_st rfl rfl rfl rfl (V_build (vs := [_, _, _, _, _, _, _, _, _]) rfl rfl zc_304 pl_304 sa_304 rfl) ?_;refine GT_box (z := [_, _, _, _, _, _, _, _, _]) rfl rfl rfl rfl rfl rfl rfl (fun _ => GR_nil) (fun b21 => ?_)
  refine GT_st rfl rfl rfl rfl (V_assign rfl rfl) ?_;refine GT_st rfl rfl rfl rfl (V_assign rfl rfl) ?_;refine GT_nil ?_;refine GE_ret Tryz.func235 ⟨_, _, rfl, rfl, rfl⟩ (fun w hw => ?_)
  exact ⟨_, trivial, rfl, hw.hs (C := cx Tryz.prog hm 0 0 _ none' fun _ _ => True) (HS.cons rfl HS.nil)⟩
def wid (f : Fmt) (t : Trk) : Int := t.pitch * ((t.long + f.per - 1) / f.per)
theorem wid_bd {f : Fmt} {t : Trk} (hf : f.Ok) (ht : t.Ok) : (0 ≤ (t.long + f.per - 1) / f.per ∧ (t.long + f.per - 1) / f.per ≤ 16777216) ∧ (t.long + f.per - 1).tdiv f.per = (t.long + f.per - 1) / f.per ∧ 0 ≤ wid f t ∧ wid f t ≤ 68719476736 := by
  have h1 := hf.per
  have h2 := ht.long
  have h3 := ht.pitch
  have h4 : 0 ≤ (t.long + f.per - 1) / f.per := Int.ediv_nonneg (by omega) (by omega)
  have h5 : (t.long + f.per - 1) / f.per ≤ 16777216 := by
    refine Int.le_of_lt_add_one (Int.ediv_lt_of_lt_mul (by omega) ?_)
    have : (16777216 + 1) * 1 ≤ (16777216 + 1) * f.per := Int.mul_le_mul_of_nonneg_left (by omega) (by omega)
    have e : ((16777216 : Int) + 1) * f.per = 16777216 * f.per + f.per := by rw [Int.add_mul, Int.one_mul]
    have : 16777216 * 1 ≤ 16777216 * f.per := Int.mul_le_mul_of_nonneg_left (by omega) (by omega)
    omega
  refine ⟨⟨h4, h5⟩, Int.tdiv_eq_ediv_of_nonneg (by omega), Int.mul_nonneg (by omega) h4, ?_⟩
  have h6 : t.pitch * ((t.long + f.per - 1) / f.per) ≤ 4096 * 16777216 := Int.mul_le_mul h3.2 h5 h4 (by omega)
  unfold wid; omega
theorem C_width {f : Fmt} {t : Trk} {g n : Nat} (hf : f.Ok) (ht : t.Ok) (hb : BlkAt w g (plC f A n c) 304) : Con0 Tryz.prog 236 [ptr g 0, .agg #[I t.long, I t.pitch, I t.least]] w (I (wid f t)) := by
  have h1 := hf.per
  have h2 := ht.long
  obtain ⟨h3, h4, h5⟩ := wid_bd hf ht
  unfold wid at h5
  refine Ret_of (vs := [_, _]) hm none' Tryz.func236 rfl Tryz.ntmps236 rfl ?_
  dsimp only [slotsOf]
  refine GE_seq ?_;refine GE_plain (.ld 0 [] (.st 1 .nil)) rfl ?_;refine GT_box (z := [_, _, _]) rfl rfl rfl rfl rfl rfl rfl (fun _ => GR_nil) (fun b3 => ?_)
  refine GT_st rfl rfl rfl rfl (V_assign rfl rfl) ?_;refine GT_nil ?_;refine GE_seq ?_;refine GE_drawn (.st 0 (.st 1 (.st 2 (.st 3 (.st 4 (.st 5 (.st 6 (.st 7 (.st 8 (.st 9 (.st 10 (.st 11 (.st 12 (.st 13 (.st 14 (.st 15 (.st 16 (.st 17 (.st 18 .nil))))))))))))))))))) [] (by decide +kernel) ?_;refine GT_st rfl rfl rfl rfl (V_field rfl rfl fo_301_1) ?_;refine GT_st rfl rfl rfl rfl (V_load rfl rfl ag_2 (CellAt.item rfl)) ?_;refine GT_st rfl rfl rfl rfl (V_field rfl rfl fo_301_0) ?_;refine GT_st rfl rfl rfl rfl (V_load rfl rfl ag_2 (CellAt.item rfl)) ?_;refine GT_st rfl rfl rfl rfl (V_move rfl rfl) ?_;refine GT_st rfl rfl rfl rfl (V_nilCheck rfl rfl) ?_;refine GT_st rfl rfl rfl rfl (V_field rfl rfl fo_304_0) ?_;refine GT_st rfl rfl rfl rfl (V_field rfl rfl fo_77_3) ?_;refine GT_st rfl rfl rfl rfl (V_load rfl rfl ag_2 (CellAt.old (hb.cell rfl) (noM _))) ?_;refine GT_st rfl rfl rfl rfl (V_add rfl rfl rfl (wrap_i64 (by omega))) ?_;refine GT_st rfl rfl rfl rfl (V_sub rfl rfl rfl (wrap_i64 (by omega))) ?_;refine GT_st rfl rfl rfl rfl (V_move rfl rfl) ?_;refine GT_st rfl rfl rfl rfl (V_nilCheck rfl rfl) ?_;refine GT_st rfl rfl rfl rfl (V_field rfl rfl fo_304_0) ?_;refine GT_st rfl rfl rfl rfl (V_field rfl rfl fo_77_3) ?_;refine GT_st rfl rfl rfl rfl (V_load rfl rfl ag_2 (CellAt.old (hb.cell rfl) (noM _))) ?_;refine GT_st rfl rfl rfl rfl (V_quo rfl rfl rfl (by omega) ((wrap_i64 (by rw [h4]; omega)).trans h4)) ?_;refine GT_st rfl rfl rfl rfl (V_mul rfl rfl rfl ((wrap_i64 (by omega)))) ?_;refine GT_st rfl rfl rfl rfl (V_assign rfl rfl) ?_;refine GT_nil ?_;refine GE_ret Tryz.func236 rfl (fun w hw => ⟨?_, hw.nil⟩)
  rfl
end
end Go.Proofs.YtpbflnfcgcldkaaGreatDoor.Side
/- The bands of one track, walked. -/
namespace Go.Proofs.YtpbflnfcgcldkaaGreatDoor.Side
open Go.Sx Go.Proofs Go.RowKit
structure Bnd where
  track : Int
  frm : Int
  to : Int
instance : Inhabited Bnd := ⟨⟨0, 0, 0⟩⟩
def eBnd (x : Bnd) : List Value := [I x.track, I x.frm, I x.to]
theorem eBnd_len (x : Bnd) : (eBnd x).length = 3 := rfl
theorem eBnd_one : ∀ x, ∀ u ∈ eBnd x, u.oneCell' = true := by intro x u hu; simp only [eBnd, List.mem_cons, List.not_mem_nil, or_false] at hu; rcases hu with rfl | rfl | rfl <;> rfl
def eN (x : Int) : List Value := [I x]
theorem eN_len (x : Int) : (eN x).length = 1 := rfl
theorem eN_one : ∀ x, ∀ u ∈ eN x, u.oneCell' = true := by intro x u hu; simp only [eN, List.mem_singleton] at hu; subst hu; rfl
section
variable {w : World} {A A2 : Option Addr} {c c2 : Nat} {f : Fmt} {t : Trk} {g : Nat}
theorem C_Width {f : Fmt} {t : Trk} (hf : f.Ok) (ht : t.Ok) : Con0 Tryz.prog 174 [f.val, .agg #[I t.long, I t.pitch, I t.least]] w (.tuple #[I (wid f t), I 0]) := by
  refine Ret_of (vs := [_, _]) hm none' Tryz.func174 rfl Tryz.ntmps174 rfl ?_
  dsimp only [slotsOf]
  refine GE_seq ?_;refine GE_plain (.ld 0 [] (.ld 1 [] (.st 2 (.st 3 .nil)))) rfl ?_;refine GT_box (z := [_, _, _, _, _, _, _, _]) rfl rfl rfl rfl rfl rfl rfl (fun _ => GR_nil) (fun b2 => ?_)
  refine GT_box (z := [_, _, _]) rfl rfl rfl rfl rfl rfl rfl (fun _ => GR_nil) (fun b3 => ?_)
  refine GT_st rfl rfl rfl rfl (V_assign rfl rfl) ?_;refine GT_st rfl rfl rfl rfl (V_assign rfl rfl) ?_;refine GT_nil ?_;refine GE_seq ?_;refine GE_slots (L' := [(2, _), (3, _)]) ⟨rfl, rfl, trivial⟩ ?_;refine GE_plain (.st 0 (.st 1 (.ld 2 [] (.ld 3 [] (.st 4 (.st 5 (.st 6 (.st 7 (.st 8 .nil))))))))) rfl ?_;refine GT_st rfl rfl rfl rfl (V_loadN (vs := [_, _, _, _, _, _, _, _]) rfl rfl ag_77 sz_77 rfl (CellsAt.item rfl)) ?_;refine GT_st rfl rfl rfl rfl (V_loadN (vs := [_, _, _]) rfl rfl ag_301 sz_301 rfl (CellsAt.item rfl)) ?_;refine GT_buildSlice (z := [_, _, _]) rfl rfl rfl rfl rfl Tryz.underlying95 zc_301 sz_301 (by decide) rfl rfl (fun _ => GR_nil) (fun b11 => ?_)
  refine GT_call rfl rfl rfl rfl rfl rfl rfl rfl rn_235 (fun w hw => C_open (l := [t]) hf (RdL.own' hw (fun x => rfl)) (show 1 ≤ 24 by decide) (fun x hx => by rw [List.mem_singleton] at hx; subst hx; exact ht)) (fun _ _ => GR_nil) (fun b _ => ?_)
  refine GT_st rfl rfl rfl rfl (V_move rfl rfl) ?_;refine GT_st rfl rfl rfl rfl (V_extract rfl rfl rfl) ?_;refine GT_st rfl rfl rfl rfl (V_extract rfl rfl rfl) ?_;refine GT_st rfl rfl rfl rfl (V_assign rfl rfl) ?_;refine GT_st rfl rfl rfl rfl (V_assign rfl rfl) ?_;refine GT_nil ?_;refine GE_seq ?_;refine GE_seq ?_;refine GE_slots (L' := [(3, _), (6, _), (7, _)]) ⟨rfl, rfl, rfl, trivial⟩ ?_;refine GE_plain (.st 0 (.st 1 .nil)) rfl ?_;refine GT_st rfl rfl rfl rfl (V_move rfl rfl) ?_;refine GT_st rfl rfl rfl rfl (V_isF (V_neq rfl rfl rfl) (fun q => q rfl)) ?_;refine GT_nil ?_;refine GE_cond_f rfl ?_;refine GE_skip ?_;refine GE_seq ?_;refine GE_plain (.st 0 (.st 1 (.ld 2 [] (.st 3 (.st 4 .nil))))) rfl ?_;refine GT_st rfl rfl rfl rfl (V_move rfl rfl) ?_;refine GT_st rfl rfl rfl rfl (V_loadN (vs := [_, _, _]) rfl rfl ag_301 sz_301 rfl (CellsAt.item rfl)) ?_;refine GT_call0 rfl rfl rfl rfl rfl rfl rfl rfl rn_236 (fun w hw => C_width (t := t) hf ht (BlkAt.of hw)) (GR_nil) ?_;refine GT_st rfl rfl rfl rfl (V_assign rfl rfl) ?_;refine GT_st rfl rfl rfl rfl (V_assign rfl rfl) ?_;refine GT_nil ?_;refine GE_ret Tryz.func174 ⟨_, _, rfl, rfl, rfl⟩ (fun w hw => ⟨?_, hw.nil⟩)
  rfl
end
end Go.Proofs.YtpbflnfcgcldkaaGreatDoor.Side
/- One track alone: the usual order, a crowd, walked. -/
namespace Go.Proofs.YtpbflnfcgcldkaaGreatDoor.Side
open Go.Sx Go.Proofs Go.RowKit
theorem opv_eq {C : Cx} {L : Slots} {H : Items} {o : Oper} {v v' : Value} (h : OpV C L H o v) (e : v = v') : OpV C L H o v' := e ▸ h
section
variable {w : World} {A A2 : Option Addr} {c c2 : Nat} {f : Fmt} {t : Trk} {g : Nat}
end
end Go.Proofs.YtpbflnfcgcldkaaGreatDoor.Side
/- One track alone is a crowd if its band is not possible, walked. -/
namespace Go.Proofs.YtpbflnfcgcldkaaGreatDoor.Side
open Go.Sx Go.Proofs Go.RowKit
theorem own_le {α : Type} {sz e : Nat} {enc : α → List Value} {l : List α} {A : Option Addr} {c : Nat} {I : Items} {n : Nat} (h : Own sz e enc l (.slice A n c) I) : n ≤ c := by
  rcases h with ⟨h1, h2, _⟩ | ⟨g, c', rest, h1, _, _, h4, _⟩
  · injection h1 with _ h1 _; rw [h1]; exact Nat.zero_le _
  · injection h1 with _ h0 h1; rw [h0, h1]; exact h4
section
variable {w : World} {A A2 : Option Addr} {c c2 : Nat} {f : Fmt} {t : Trk} {g : Nat}
end
end Go.Proofs.YtpbflnfcgcldkaaGreatDoor.Side
/- Nets of panels, in plain Lean: flat, and folded. -/
namespace Go.Proofs.YtpbflnfcgcldkaaGreatDoor.Net
open Go.Sx
open Side (getD_memT)
structure Box where
  x0 : Int
  y0 : Int
  x1 : Int
  y1 : Int
  down : Bool
instance : Inhabited Box := ⟨⟨0, 0, 0, 0, false⟩⟩
structure Pan where
  on : Int
  edge : Int
  off : Int
  wide : Int
  high : Int
instance : Inhabited Pan := ⟨⟨0, 0, 0, 0, 0⟩⟩
def comW (b c : Box) : Int := min b.x1 c.x1 - max b.x0 c.x0
def comH (b c : Box) : Int := min b.y1 c.y1 - max b.y0 c.y0
def hgX (b : Box) (p : Pan) : Int := if p.edge = 0 then b.x1 else if p.edge = 2 then b.x0 - p.wide else b.x0 + p.off
def hgY (b : Box) (p : Pan) : Int := if p.edge = 1 then b.y1 else if p.edge = 3 then b.y0 - p.high else b.y0 + p.off
def hangB (b : Box) (p : Pan) : Box := ⟨hgX b p, hgY b p, hgX b p + p.wide, hgY b p + p.high, false⟩
def fst0 (p : Pan) : Box := ⟨0, 0, p.wide, p.high, false⟩
def flq (l : List Pan) : Nat → List Box
  | 0 => []
  | k + 1 => flq l k ++ [if k = 0 then fst0 (l.getD k default) else hangB ((flq l k).getD (l.getD k default).on.toNat default) (l.getD k default)]
def flat (l : List Pan) : List Box := flq l l.length
structure NetOk (l : List Pan) : Prop where
  len : 1 ≤ l.length ∧ l.length ≤ 12
  sz : ∀ p ∈ l, (1 ≤ p.wide ∧ p.wide ≤ 65536) ∧ 1 ≤ p.high ∧ p.high ≤ 65536
  first : (l.getD 0 default).on = -1 ∧ (l.getD 0 default).edge = 0 ∧ (l.getD 0 default).off = 0
  rest : ∀ k, 0 < k → k < l.length → (0 ≤ (l.getD k default).on ∧ (l.getD k default).on < k) ∧ (0 ≤ (l.getD k default).edge ∧ (l.getD k default).edge ≤ 3) ∧ -65536 ≤ (l.getD k default).off ∧ (l.getD k default).off ≤ 65536
  touch : ∀ k, 0 < k → k < l.length → 0 < comW ((flat l).getD k default) ((flat l).getD (l.getD k default).on.toNat default) ∨ 0 < comH ((flat l).getD k default) ((flat l).getD (l.getD k default).on.toNat default)
  apart : ∀ i, i < l.length → ∀ j, j < i → comW ((flat l).getD i default) ((flat l).getD j default) ≤ 0 ∨ comH ((flat l).getD i default) ((flat l).getD j default) ≤ 0
theorem flq_len (l : List Pan) : ∀ k, (flq l k).length = k
  | 0 => rfl
  | k + 1 => by rw [flq, List.length_append, flq_len l k]; rfl
theorem flat_len (l : List Pan) : (flat l).length = l.length := flq_len l _
theorem flq_pre (l : List Pan) {k : Nat} : ∀ {n}, k ≤ n → flq l k <+: flq l n
  | 0, h => by obtain rfl : k = 0 := by omega
               exact List.prefix_refl _
  | n + 1, h => by
    by_cases e : k = n + 1
    · subst e; exact List.prefix_refl _
    · exact (flq_pre l (show k ≤ n by omega)).trans (by rw [flq]; exact List.prefix_append _ _)
theorem pre_get {α : Type} [Inhabited α] {a b : List α} (h : a <+: b) {i : Nat} (hi : i < a.length) : b.getD i default = a.getD i default := by
  obtain ⟨t, rfl⟩ := h
  simp [List.getD, List.getElem?_append, hi]
theorem flq_get (l : List Pan) {k i : Nat} (hk : k ≤ l.length) (hi : i < k) : (flq l k).getD i default = (flat l).getD i default :=
  (pre_get (flq_pre l hk) (by rw [flq_len]; exact hi)).symm
theorem flat_get (l : List Pan) {k : Nat} (h0 : 0 < k) (hk : k < l.length) : (flat l).getD k default = hangB ((flq l k).getD (l.getD k default).on.toNat default) (l.getD k default) := by
  rw [← flq_get l (k := k + 1) hk (by omega), flq]
  have h := flq_len l k
  simp [List.getD, List.getElem?_append, h, show k ≠ 0 by omega]
end Go.Proofs.YtpbflnfcgcldkaaGreatDoor.Net
/- The pages of a folded sheet, in plain Lean: each side of each cell is one page. -/
namespace Go.Proofs.YtpbflnfcgcldkaaGreatDoor.Slv
open Go.Sx
structure Leaf where
  row : Int
  col : Int
  back : Bool
  turned : Bool
instance : Inhabited Leaf := ⟨⟨0, 0, false, false⟩⟩
/-! ### numbers -/
/-! ### where cells are -/
def apart (x y : Leaf) : Prop := ¬ (x.row = y.row ∧ x.col = y.col)
/-! ### pages -/
def same (r c : Int) (b : Bool) (x : Leaf) : Bool := decide (x.row = r) && decide (x.col = c) && (x.back == b)
end Go.Proofs.YtpbflnfcgcldkaaGreatDoor.Slv
/- Curves and signals that are valid, walked. -/
namespace Go.Proofs.YtpbflnfcgcldkaaGreatDoor.Side
open Go.Sx Go.Proofs Go.RowKit
section
variable {w : World} {A A2 : Option Addr} {c c2 : Nat} {l : List Int} {most : Int} {g : Nat}
theorem C_beyond {n : Int} (h : (0 ≤ most ∧ most ≤ 1000000) ∧ -most ≤ n ∧ n ≤ most) : Con0 Tryz.prog 341 [I n, I most] w (.bool false) := by
  refine Ret_of (vs := [_, _]) hm none' Tryz.func341 rfl Tryz.ntmps341 rfl ?_
  dsimp only [slotsOf]
  refine GE_seq ?_;refine GE_plain (.st 0 .nil) rfl ?_;refine GT_st rfl rfl rfl rfl (V_assign rfl rfl) ?_;refine GT_nil ?_;refine GE_seq ?_;refine GE_plain (.st 0 (.st 1 (.st 2 (.st 3 (.st 4 (.st 5 (.st 6 (.st 7 (.st 8 (.st 9 .nil)))))))))) rfl ?_;refine GT_st rfl rfl rfl rfl (V_move rfl rfl) ?_;refine GT_st rfl rfl rfl rfl (V_move rfl rfl) ?_;refine GT_st rfl rfl rfl rfl (V_neg rfl rfl ((wrap_i64 (by omega)).trans (show _ = -most by omega))) ?_;refine GT_st rfl rfl rfl rfl (V_isF (V_lss rfl rfl rfl) (by omega)) ?_;refine GT_st rfl rfl rfl rfl (V_move rfl rfl) ?_;refine GT_st_g rfl rfl rfl rfl rfl rfl rfl (V_move rfl rfl) ?_;refine GT_st_g rfl rfl rfl rfl rfl rfl rfl (V_move rfl rfl) ?_;refine GT_st_g rfl rfl rfl rfl rfl rfl rfl (V_isF (V_gtr rfl rfl rfl) (by omega)) ?_;refine GT_st rfl rfl rfl rfl (V_pick_f rfl rfl rfl) ?_;refine GT_st rfl rfl rfl rfl (V_assign rfl rfl) ?_;refine GT_nil ?_;refine GE_ret Tryz.func341 rfl (fun w hw => ⟨?_, hw.nil⟩)
  rfl
theorem C_anyB1 {n : Int} (h : (0 ≤ most ∧ most ≤ 1000000) ∧ -most ≤ n ∧ n ≤ most) (hb : BlkAt w g [I most] 2) : Con0 Tryz.prog 353 [I n, ptr g 0] w (.bool false) := by
  refine Ret_of (vs := [_, _]) hm none' Tryz.func353 rfl Tryz.ntmps353 rfl ?_
  dsimp only [slotsOf]
  refine GE_seq ?_;refine GE_plain (.st 0 .nil) rfl ?_;refine GT_st rfl rfl rfl rfl (V_assign rfl rfl) ?_;refine GT_nil ?_;refine GE_seq ?_;refine GE_plain (.st 0 (.st 1 (.ld 2 [] (.st 3 .nil)))) rfl ?_;refine GT_st rfl rfl rfl rfl (V_move rfl rfl) ?_;refine GT_st rfl rfl rfl rfl (V_load rfl rfl ag_2 (CellAt.old (hb.cell rfl) (noM _))) ?_;refine GT_call0 rfl rfl rfl rfl rfl rfl rfl rfl rn_341 (fun w hw => C_beyond h) (GR_nil) ?_;refine GT_st rfl rfl rfl rfl (V_assign rfl rfl) ?_;refine GT_nil ?_;refine GE_ret Tryz.func353 rfl (fun w hw => ⟨?_, hw.nil⟩)
  rfl
theorem C_IndexFF (h : RdL w 1 eN A l) (hmo : 0 ≤ most ∧ most ≤ 1000000) (hl : l.length ≤ 4096) (ha : ∀ x ∈ l, -most ≤ x ∧ x ≤ most) (hb : BlkAt w g [I most] 2) : Con0 Tryz.prog 206 [.slice A l.length c, .func (.func 353) #[] #[ptr g 0]] w (I (-1)) := by
  refine Ret_of (vs := [_, _]) hm none' Tryz.func206 rfl Tryz.ntmps206 rfl ?_
  dsimp only [slotsOf]
  refine GE_seq ?_;refine GE_plain (.st 0 .nil) rfl ?_;refine GT_st rfl rfl rfl rfl (V_assign rfl rfl) ?_;refine GT_nil ?_;refine GE_seq ?_;refine GE_seq ?_;refine GE_plain (.st 0 (.st 1 (.st 2 .nil))) rfl ?_;refine GT_st rfl rfl rfl rfl (V_move rfl rfl) ?_;refine GT_st rfl rfl rfl rfl (V_len rfl Tryz.underlying43 rfl) ?_;refine GT_st rfl rfl rfl rfl (V_move rfl rfl) ?_;refine GT_nil ?_;refine GE_block ?_;refine GE_to (GE_loop (ι := Nat) (fun k => l.length - k) (fun k => [(0, .slice A l.length c), (1, .func (.func 353) #[] #[ptr g 0]), (7, I l.length), (8, I k)]) (fun k => []) (fun k => k ≤ l.length) ?_ 0 ?_) ⟨rfl, rfl, rfl, rfl, trivial⟩ HS.nil
  · intro k hk ih
    refine GE_seq ?_;refine GE_plain (.st 0 .nil) rfl ?_;refine GT_st rfl rfl rfl rfl (V_lss rfl rfl rfl) ?_;refine GT_nil ?_;refine GE_seq ?_;refine GE_cond rfl (fun q1 => ?_) (fun q1 => ?_)
    · have hkl : k < l.length := (by omega); have hak := ha _ (getD_memT hkl)
      refine GE_skip ?_;refine GE_seq ?_;refine GE_block ?_;refine GE_seq ?_;refine GE_plain (.st 0 (.st 1 .nil)) rfl ?_;refine GT_st rfl rfl rfl rfl (V_move rfl rfl) ?_;refine GT_st rfl rfl rfl rfl (V_assign rfl rfl) ?_;refine GT_nil ?_;refine GE_seq ?_;refine GE_plain (.st 0 (.st 1 (.st 2 (.st 3 (.st 4 (.ld 5 [] .nil)))))) rfl ?_;refine GT_st rfl rfl rfl rfl (V_move rfl rfl) ?_;refine GT_st rfl rfl rfl rfl (V_move rfl rfl) ?_;refine GT_st rfl rfl rfl rfl (V_move rfl rfl) ?_;refine GT_st rfl rfl rfl rfl (V_index rfl rfl rfl Tryz.underlying43 sz_2 (k := k) rfl hkl (h.isSome hkl)) ?_;refine GT_st rfl rfl rfl rfl (V_load rfl rfl ag_2 (h.at0 noM hkl rfl)) ?_;refine GT_call0 rfl rfl rfl rfl rfl rfl rfl rfl rn_353 (fun w hw => C_anyB1 ⟨hmo, hak⟩ (hb.sh hw)) (GR_nil) ?_;refine GT_nil ?_;refine GE_cond_f rfl ?_;refine GE_skip ?_;refine GE_inBlock ?_;refine GE_slots (L' := [(0, _), (1, _), (7, _), (8, _)]) ⟨rfl, rfl, rfl, rfl, trivial⟩ ?_;refine GE_plain (.st 0 (.ld 1 [] .nil)) rfl ?_;refine GT_st rfl rfl rfl rfl (V_add rfl rfl rfl (wrap_i64 (by omega))) ?_;refine GT_ldv rfl rfl rfl rfl rfl (V_move rfl rfl) (GR_nil) ?_;refine GT_nil ?_
      exact GE_to (ih (k + 1) (by omega) (by omega)) ⟨rfl, rfl, rfl, rfl, trivial⟩ HS.nil
    · refine GE_exit rfl ?_;refine GE_seq ?_;refine GE_slots (L' := []) trivial ?_;refine GE_plain (.st 0 .nil) rfl ?_;refine GT_st rfl rfl rfl rfl (V_assign rfl rfl) ?_;refine GT_nil ?_;refine GE_ret Tryz.func206 rfl (fun w hw => ⟨?_, hw.nil⟩)
      rfl
  · exact Nat.zero_le _
theorem C_ContainsFF (h : RdL w 1 eN A l) (hmo : 0 ≤ most ∧ most ≤ 1000000) (hl : l.length ≤ 4096) (ha : ∀ x ∈ l, -most ≤ x ∧ x ≤ most) (hb : BlkAt w g [I most] 2) : Con0 Tryz.prog 142 [.slice A l.length c, .func (.func 353) #[] #[ptr g 0]] w (.bool false) := by
  refine Ret_of (vs := [_, _]) hm none' Tryz.func142 rfl Tryz.ntmps142 rfl ?_
  dsimp only [slotsOf]
  refine GE_seq ?_;refine GE_plain (.st 0 .nil) rfl ?_;refine GT_st rfl rfl rfl rfl (V_assign rfl rfl) ?_;refine GT_nil ?_;refine GE_seq ?_;refine GE_plain (.st 0 (.st 1 (.ld 2 [] (.st 3 (.st 4 .nil))))) rfl ?_;refine GT_st rfl rfl rfl rfl (V_move rfl rfl) ?_;refine GT_st rfl rfl rfl rfl (V_move rfl rfl) ?_;refine GT_call0 rfl rfl rfl rfl rfl rfl rfl rfl rn_206 (fun w hw => C_IndexFF (h.sh hw) hmo hl ha (hb.sh hw)) (GR_nil) ?_;refine GT_st rfl rfl rfl rfl (V_geq rfl rfl rfl) ?_;refine GT_st rfl rfl rfl rfl (V_assign rfl rfl) ?_;refine GT_nil ?_;refine GE_ret Tryz.func142 rfl (fun w hw => ⟨?_, hw.nil⟩)
  rfl
theorem C_anyBeyond (h : RdL w 1 eN A l) (hmo : 0 ≤ most ∧ most ≤ 1000000) (hl : l.length ≤ 4096) (ha : ∀ x ∈ l, -most ≤ x ∧ x ≤ most) : Con0 Tryz.prog 336 [.slice A l.length c, I most] w (.bool false) := by
  refine Ret_of (vs := [_, _]) hm none' Tryz.func336 rfl Tryz.ntmps336 rfl ?_
  dsimp only [slotsOf]
  refine GE_seq ?_;refine GE_plain (.ld 0 [] (.st 1 .nil)) rfl ?_;refine GT_box (z := [_]) rfl rfl rfl rfl rfl rfl rfl (fun _ => GR_nil) (fun b3 => ?_)
  refine GT_st rfl rfl rfl rfl (V_assign rfl rfl) ?_;refine GT_nil ?_;refine GE_seq ?_;refine GE_plain (.st 0 (.st 1 (.ld 2 [] (.st 3 .nil)))) rfl ?_;refine GT_st rfl rfl rfl rfl (V_move rfl rfl) ?_;refine GT_st rfl rfl rfl rfl (V_makeFunc rfl rfl rfl) ?_;refine GT_call0 rfl rfl rfl rfl rfl rfl rfl rfl rn_142 (fun w hw => C_ContainsFF (h.sh hw) hmo hl ha (BlkAt.of hw)) (GR_nil) ?_;refine GT_st rfl rfl rfl rfl (V_assign rfl rfl) ?_;refine GT_nil ?_;refine GE_ret Tryz.func336 rfl (fun w hw => ⟨?_, hw.nil⟩)
  rfl
theorem C_checkSignal (h : RdL w 1 eN A l) (hl : l.length ≤ 4096) (ha : ∀ x ∈ l, -32767 ≤ x ∧ x ≤ 32767) : Con0 Tryz.prog 314 [.slice A l.length c] w (I 0) := by
  refine Ret_of (vs := [_]) hm none' Tryz.func314 rfl Tryz.ntmps314 rfl ?_
  dsimp only [slotsOf]
  refine GE_seq ?_;refine GE_plain (.st 0 .nil) rfl ?_;refine GT_st rfl rfl rfl rfl (V_assign rfl rfl) ?_;refine GT_nil ?_;refine GE_seq ?_;refine GE_seq ?_;refine GE_plain (.st 0 (.st 1 (.st 2 .nil))) rfl ?_;refine GT_st rfl rfl rfl rfl (V_move rfl rfl) ?_;refine GT_st rfl rfl rfl rfl (V_len rfl Tryz.underlying43 rfl) ?_;refine GT_st rfl rfl rfl rfl (V_isF (V_gtr rfl rfl rfl) (by omega)) ?_;refine GT_nil ?_;refine GE_cond_f rfl ?_;refine GE_skip ?_;refine GE_seq ?_;refine GE_seq ?_;refine GE_slots (L' := [(0, _)]) ⟨rfl, trivial⟩ ?_;refine GE_plain (.st 0 (.ld 1 [] .nil)) rfl ?_;refine GT_st rfl rfl rfl rfl (V_move rfl rfl) ?_;refine GT_call0 rfl rfl rfl rfl rfl rfl rfl rfl rn_336 (fun w hw => C_anyBeyond (h.sh hw) (by decide) hl ha) (GR_nil) ?_;refine GT_nil ?_;refine GE_cond_f rfl ?_;refine GE_skip ?_;refine GE_seq ?_;refine GE_plain (.st 0 .nil) rfl ?_;refine GT_st rfl rfl rfl rfl (V_assign rfl rfl) ?_;refine GT_nil ?_;refine GE_ret Tryz.func314 rfl (fun w hw => ⟨?_, hw.nil⟩)
  rfl
theorem C_CheckCurve (hF : RdL w 1 eN A [64]) (hB : RdL w 1 eN A2 [128]) : Con0 Tryz.prog 335 [.agg #[.slice A 1 c, .slice A2 1 c2, I 256]] w (I 0) := by
  refine Ret_of (vs := [_]) hm none' Tryz.func335 rfl Tryz.ntmps335 rfl ?_
  dsimp only [slotsOf]
  refine GE_seq ?_;refine GE_plain (.ld 0 [] (.st 1 .nil)) rfl ?_;refine GT_box (z := [_, _, _]) rfl rfl rfl rfl rfl rfl rfl (fun _ => GR_nil) (fun b1 => ?_)
  refine GT_st rfl rfl rfl rfl (V_assign rfl rfl) ?_;refine GT_nil ?_;refine GE_seq ?_;refine GE_block ?_;refine GE_seq ?_;refine GE_plain (.st 0 (.st 1 (.st 2 (.st 3 (.st 4 (.st 5 (.st 6 (.st 7 (.st 8 .nil))))))))) rfl ?_;refine GT_st rfl rfl rfl rfl (V_field rfl rfl fo_425_0) ?_;refine GT_st rfl rfl rfl rfl (V_load rfl rfl ag_43 (CellAt.item rfl)) ?_;refine GT_st rfl rfl rfl rfl (V_len rfl Tryz.underlying43 rfl) ?_;refine GT_st rfl rfl rfl rfl (V_field rfl rfl fo_425_1) ?_;refine GT_st rfl rfl rfl rfl (V_load rfl rfl ag_43 (CellAt.item rfl)) ?_;refine GT_st rfl rfl rfl rfl (V_len rfl Tryz.underlying43 rfl) ?_;refine GT_st rfl rfl rfl rfl (V_max rfl rfl rfl) ?_;refine GT_st rfl rfl rfl rfl (V_isF (V_gtr rfl rfl rfl) (by decide)) ?_;refine GT_st rfl rfl rfl rfl (V_assign rfl rfl) ?_;refine GT_nil ?_;refine GE_cond_f rfl ?_;refine GE_seq ?_;refine GE_slots (L' := [(1, _)]) ⟨rfl, trivial⟩ ?_;refine GE_plain (.st 0 (.st 1 (.ld 2 [] (.st 3 (.st 4 (.st 5 (.ld 6 [] (.st 7 (.st 8 (.st 9 (.st 10 (.st 11 (.st 12 (.st 13 (.st 14 (.st 15 (.st 16 (.st 17 (.st 18 .nil))))))))))))))))))) rfl ?_;refine GT_st rfl rfl rfl rfl (V_field rfl rfl fo_425_0) ?_;refine GT_st rfl rfl rfl rfl (V_load rfl rfl ag_43 (CellAt.item rfl)) ?_;refine GT_call0 rfl rfl rfl rfl rfl rfl rfl rfl rn_336 (fun w hw => C_anyBeyond (l := [64]) (hF.sh hw) (by decide) (by decide) (by decide)) (GR_nil) ?_;refine GT_st rfl rfl rfl rfl (V_move rfl rfl) ?_;refine GT_st_g rfl rfl rfl rfl rfl rfl rfl (V_field rfl rfl fo_425_1) ?_;refine GT_st_g rfl rfl rfl rfl rfl rfl rfl (V_load rfl rfl ag_43 (CellAt.item rfl)) ?_;refine GT_call0_g rfl rfl rfl rfl rfl rfl rfl rfl rfl rfl rfl rn_336 (fun w hw => C_anyBeyond (l := [128]) (hB.sh hw) (by decide) (by decide) (by decide)) (GR_nil) ?_
  refine GT_st rfl rfl rfl rfl (V_pick_f rfl rfl rfl) ?_;refine GT_st rfl rfl rfl rfl (V_move rfl rfl) ?_;refine GT_st_g rfl rfl rfl rfl rfl rfl rfl (V_field rfl rfl fo_425_2) ?_;refine GT_st_g rfl rfl rfl rfl rfl rfl rfl (V_load rfl rfl ag_2 (CellAt.item rfl)) ?_;refine GT_st_g rfl rfl rfl rfl rfl rfl rfl (V_isF (V_lss rfl rfl rfl) (by decide)) ?_;refine GT_st rfl rfl rfl rfl (V_pick_f rfl rfl rfl) ?_;refine GT_st rfl rfl rfl rfl (V_move rfl rfl) ?_;refine GT_st_g rfl rfl rfl rfl rfl rfl rfl (V_field rfl rfl fo_425_2) ?_;refine GT_st_g rfl rfl rfl rfl rfl rfl rfl (V_load rfl rfl ag_2 (CellAt.item rfl)) ?_;refine GT_st_g rfl rfl rfl rfl rfl rfl rfl (V_isF (V_gtr rfl rfl rfl) (by decide)) ?_;refine GT_st rfl rfl rfl rfl (V_pick_f rfl rfl rfl) ?_;refine GT_st rfl rfl rfl rfl (V_assign rfl rfl) ?_;refine GT_nil ?_;refine GE_cond_f rfl ?_;refine GE_skip ?_;refine GE_inBlock ?_;refine GE_seq ?_;refine GE_slots (L' := []) trivial ?_;refine GE_plain (.st 0 .nil) rfl ?_;refine GT_st rfl rfl rfl rfl (V_assign rfl rfl) ?_;refine GT_nil ?_;refine GE_ret Tryz.func335 rfl (fun w hw => ⟨?_, hw.nil⟩)
  rfl
theorem C_checkChain {b : Nat} (hF : RdL w 1 eN A [64]) (hB : RdL w 1 eN A2 [128]) (hb : BlkAt w b [.slice A 1 c, .slice A2 1 c2, I 256] 425) : Con0 Tryz.prog 313 [.slice (some ⟨b, 0, none⟩) 1 1] w (I 0) := by
  refine Ret_of (vs := [_]) hm none' Tryz.func313 rfl Tryz.ntmps313 rfl ?_
  dsimp only [slotsOf]
  refine GE_seq ?_;refine GE_plain (.st 0 .nil) rfl ?_;refine GT_st rfl rfl rfl rfl (V_assign rfl rfl) ?_;refine GT_nil ?_;refine GE_seq ?_;refine GE_seq ?_;refine GE_plain (.st 0 (.st 1 (.st 2 .nil))) rfl ?_;refine GT_st rfl rfl rfl rfl (V_move rfl rfl) ?_;refine GT_st rfl rfl rfl rfl (V_len rfl Tryz.underlying487 rfl) ?_;refine GT_st rfl rfl rfl rfl (V_isF (V_gtr rfl rfl rfl) (by decide)) ?_;refine GT_nil ?_;refine GE_cond_f rfl ?_;refine GE_skip ?_;refine GE_seq ?_;refine GE_seq ?_;refine GE_slots (L' := [(0, _)]) ⟨rfl, trivial⟩ ?_;refine GE_plain (.st 0 (.st 1 (.st 2 .nil))) rfl ?_;refine GT_st rfl rfl rfl rfl (V_move rfl rfl) ?_;refine GT_st rfl rfl rfl rfl (V_len rfl Tryz.underlying487 rfl) ?_;refine GT_st rfl rfl rfl rfl (V_move rfl rfl) ?_;refine GT_nil ?_;refine GE_block ?_;refine GE_to (GE_loop (ι := Nat) (fun k => 1 - k) (fun k => [(9, .slice (some ⟨b, 0, none⟩) 1 1), (10, I 1), (11, I k)]) (fun k => []) (fun k => k ≤ 1) ?_ 0 ?_) ⟨rfl, rfl, rfl, trivial⟩ HS.nil
  · intro k hk ih
    refine GE_seq ?_;refine GE_plain (.st 0 .nil) rfl ?_;refine GT_st rfl rfl rfl rfl (V_lss rfl rfl rfl) ?_;refine GT_nil ?_;refine GE_seq ?_;refine GE_cond rfl (fun q1 => ?_) (fun q1 => ?_)
    · obtain rfl : k = 0 := (by omega)
      refine GE_skip ?_;refine GE_seq ?_;refine GE_block ?_;refine GE_seq ?_;refine GE_plain (.st 0 (.st 1 (.ld 2 [] (.ld 3 [] .nil)))) rfl ?_;refine GT_st rfl rfl rfl rfl (V_index rfl rfl rfl Tryz.underlying487 sz_425 (k := 0) rfl Nat.zero_lt_one rfl) ?_;refine GT_st rfl rfl rfl rfl (V_loadN (vs := [_, _, _]) rfl rfl ag_425 sz_425 rfl (show CellsAt _ _ ⟨b, 0 * 3, none⟩ [.slice A 1 c, .slice A2 1 c2, I 256] from fun j v hj => by rw [add_lit, Nat.zero_mul, Nat.zero_add]; exact CellAt.old (hb.cell hj) (noM _))) ?_;refine GT_alloc rfl rfl rfl rfl rfl zc_425 (fun _ => GR_nil) (fun b4 => ?_)
      refine GT_store (vs := [_, _, _]) (l' := [_, _, _]) rfl rfl rfl rfl rfl rfl rfl sz_425 rfl rfl (Nat.le_of_ble_eq_true rfl) rfl (GR_nil) ?_;refine GT_nil ?_;refine GE_seq ?_;refine GE_plain (.st 0 (.ld 1 [] (.st 2 .nil))) rfl ?_;refine GT_st rfl rfl rfl rfl (V_loadN (vs := [_, _, _]) rfl rfl ag_425 sz_425 rfl (CellsAt.item rfl)) ?_;refine GT_call0 rfl rfl rfl rfl rfl rfl rfl rfl rn_335 (fun w hw => C_CheckCurve (hF.sh hw) (hB.sh hw)) (GR_nil) ?_;refine GT_st rfl rfl rfl rfl (V_assign rfl rfl) ?_;refine GT_nil ?_;refine GE_seq ?_;refine GE_slots (L' := [(5, _), (9, _), (10, _), (11, _)]) ⟨rfl, rfl, rfl, rfl, trivial⟩ ?_;refine GE_plain (.st 0 (.st 1 .nil)) rfl ?_;refine GT_st rfl rfl rfl rfl (V_move rfl rfl) ?_;refine GT_st rfl rfl rfl rfl (V_isF (V_neq rfl rfl rfl) (fun q => q rfl)) ?_;refine GT_nil ?_;refine GE_cond_f rfl ?_;refine GE_skip ?_;refine GE_inBlock ?_;refine GE_plain (.st 0 (.ld 1 [] .nil)) rfl ?_;refine GT_st rfl rfl rfl rfl (V_add rfl rfl rfl (wrap_i64 (by omega))) ?_;refine GT_ldv rfl rfl rfl rfl rfl (V_move rfl rfl) (GR_nil) ?_;refine GT_nil ?_
      exact GE_to (ih 1 (Nat.le_refl _) (show 1 - 1 < 1 - 0 by decide)) ⟨rfl, rfl, rfl, trivial⟩ HS.nil
    · obtain rfl : k = 1 := (by omega)
      refine GE_exit rfl ?_;refine GE_seq ?_;refine GE_slots (L' := []) trivial ?_;refine GE_plain (.st 0 .nil) rfl ?_;refine GT_st rfl rfl rfl rfl (V_assign rfl rfl) ?_;refine GT_nil ?_;refine GE_ret Tryz.func313 rfl (fun w hw => ⟨?_, hw.nil⟩)
      rfl
  · exact Nat.zero_le _
end
end Go.Proofs.YtpbflnfcgcldkaaGreatDoor.Side
/- Rings, and the correction of a curve, walked. -/
namespace Go.Proofs.YtpbflnfcgcldkaaGreatDoor.Side
open Go.Sx Go.Proofs Go.RowKit
theorem rem8 {k : Nat} (hk : k < 8) : ((k : Int) + 1).tmod 8 = (((k + 1) % 8 : Nat) : Int) := by
  rw [Int.tmod_eq_emod_of_nonneg (by omega)]; omega
theorem rem87 {k : Nat} (hk : k < 8) : ((k : Int) + 8 - 1 - 0).tmod 8 = (((k + 7) % 8 : Nat) : Int) := by
  rw [Int.tmod_eq_emod_of_nonneg (by omega)]; omega
theorem mul_bd {a b : Int} (ha : -4096 ≤ a ∧ a ≤ 4096) (hb : -100000 ≤ b ∧ b ≤ 100000) : -4096 * 100000 ≤ a * b ∧ a * b ≤ 4096 * 100000 := by
  have h := Int.natAbs_mul a b
  have h2 : a.natAbs * b.natAbs ≤ 4096 * 100000 := Nat.mul_le_mul (by omega) (by omega)
  rw [← h] at h2; omega
theorem tdiv256 (n : Int) : (n.tmod 256 < 0 → n.tdiv 256 - 1 = n / 256) ∧ (¬ n.tmod 256 < 0 → n.tdiv 256 = n / 256) := by
  rcases (show 0 ≤ n ∨ n < 0 by omega) with h | h
  · rw [Int.tmod_eq_emod_of_nonneg h, Int.tdiv_eq_ediv_of_nonneg h]; omega
  · obtain ⟨m, rfl⟩ : ∃ m, n = -m := ⟨-n, by omega⟩
    rw [Int.neg_tmod, Int.neg_tdiv, Int.tmod_eq_emod_of_nonneg (by omega), Int.tdiv_eq_ediv_of_nonneg (by omega)]; omega
section
variable {w w0 : World} {A A2 : Option Addr} {c c2 b q k : Nat} {cells : List Value} {H1 : Items}
def putL (cells : List Value) (q k : Nat) (n : Int) : List Value := (cells.set (q + k) (I n)).set (q + 8) (I (((k + 1) % 8 : Nat) : Int))
set_option maxRecDepth 10000 in
theorem C_put {n : Int} (m : SH w0 none' ((b, blk cells 550) :: H1) w) (hk : k < 8) (hq : cells[q + 8]? = some (I k)) (hl : q + 9 ≤ cells.length) :
    Ret Tryz.prog 339 [ptr b q, I n].toArray w fun r w' => ∃ _ : Unit, True ∧ r = .tuple #[] ∧ SH w0 none' ((b, blk (putL cells q k n) 550) :: H1) w' := by
  have hs : (cells.set (q + k) (I n))[q + 8]? = some (I k) := by rw [List.getElem?_set_ne (by omega)]; exact hq
  have hs2 : ((cells.set (q + k) (I n)).length) = cells.length := List.length_set
  refine Ret_ofH (vs := [_, _]) hm none' Tryz.func339 rfl Tryz.ntmps339 rfl m ?_
  dsimp only [slotsOf]
  refine GE_seq ?_;refine GE_drawn (.st 0 (.st 1 (.st 2 (.st 3 (.st 4 (.st 5 (.st 6 (.st 7 (.st 8 (.ld 9 [] .nil)))))))))) [9] (by decide +kernel) ?_;refine GT_st rfl rfl rfl rfl (V_move rfl rfl) ?_;refine GT_st rfl rfl rfl rfl (V_move rfl rfl) ?_;refine GT_st rfl rfl rfl rfl (V_nilCheck rfl rfl) ?_;refine GT_st rfl rfl rfl rfl (V_field rfl rfl fo_548_1) ?_;refine GT_st rfl rfl rfl rfl (V_load rfl rfl ag_3 (CellAt.item hq)) ?_;refine GT_st rfl rfl rfl rfl (V_move rfl rfl) ?_;refine GT_st rfl rfl rfl rfl (V_nilCheck rfl rfl) ?_;refine GT_st rfl rfl rfl rfl (V_field rfl rfl fo_548_0) ?_;refine GT_st rfl rfl rfl rfl (V_indexArr rfl rfl rfl Tryz.underlying546 sz_2 (kk := k) rfl hk) ?_;refine GT_store (b := b) (q := q + 0 + k * 1) (vs := [_]) (l := cells) (l' := cells.set (q + k) (I n)) rfl rfl rfl rfl rfl rfl rfl sz_2 rfl rfl (by simp only [List.length_singleton]; omega) (by simp [setsAt]) (GR_nil) ?_;refine GT_nil ?_;refine GE_slots (L' := [(0, _)]) ⟨rfl, trivial⟩ ?_;refine GE_plain (.st 0 (.st 1 (.st 2 (.st 3 (.st 4 (.st 5 (.st 6 (.st 7 (.st 8 (.ld 9 [] .nil)))))))))) rfl ?_;refine GT_st rfl rfl rfl rfl (V_move rfl rfl) ?_;refine GT_st rfl rfl rfl rfl (V_move rfl rfl) ?_;refine GT_st rfl rfl rfl rfl (V_nilCheck rfl rfl) ?_;refine GT_st rfl rfl rfl rfl (V_field rfl rfl fo_548_1) ?_;refine GT_st rfl rfl rfl rfl (V_load rfl rfl ag_3 (CellAt.item hs)) ?_;refine GT_st rfl rfl rfl rfl (V_add rfl rfl rfl (wrap_i64 (by omega))) ?_;refine GT_st rfl rfl rfl rfl (V_rem rfl rfl rfl (by omega)) ?_;refine GT_st rfl rfl rfl rfl (V_nilCheck rfl rfl) ?_;refine GT_st rfl rfl rfl rfl (V_field rfl rfl fo_548_1) ?_
  refine GT_store (b := b) (q := q + 8) (vs := [_]) (l := cells.set (q + k) (I n)) (l' := putL cells q k n) rfl rfl rfl rfl rfl rfl rfl sz_3 rfl rfl (by simp only [List.length_singleton]; omega) (by rw [rem8 hk]; rfl) (GR_nil) ?_;refine GT_nil ?_;refine GE_end Tryz.func339 rfl (fun w hw => ?_)
  exact ⟨(), trivial, rfl, hw⟩
set_option maxRecDepth 10000 in
theorem C_weigh {wt v : Int} (hb : BlkAt w b cells 550) (hA : RdL w 1 eN A [wt]) (hk : k < 8) (hn : cells[q + 8]? = some (I k)) (hv : cells[q + (k + 7) % 8]? = some (I v)) (hw1 : -4096 ≤ wt ∧ wt ≤ 4096) (hv1 : -100000 ≤ v ∧ v ≤ 100000) :
    Con0 Tryz.prog 355 [ptr b q, .slice A 1 c] w (I (wt * v)) := by
  have z1 : 0 < ([wt] : List Int).length := Nat.zero_lt_one
  have hmul : -4096 * 100000 ≤ wt * v ∧ wt * v ≤ 4096 * 100000 := mul_bd hw1 hv1
  refine Ret_of (vs := [_, _]) hm none' Tryz.func355 rfl Tryz.ntmps355 rfl ?_
  dsimp only [slotsOf]
  refine GE_seq ?_;refine GE_plain (.st 0 .nil) rfl ?_;refine GT_st rfl rfl rfl rfl (V_assign rfl rfl) ?_;refine GT_nil ?_;refine GE_seq ?_;refine GE_plain (.st 0 .nil) rfl ?_;refine GT_st rfl rfl rfl rfl (V_assign rfl rfl) ?_;refine GT_nil ?_;refine GE_seq ?_;refine GE_seq ?_;refine GE_plain (.st 0 (.st 1 (.st 2 .nil))) rfl ?_;refine GT_st rfl rfl rfl rfl (V_move rfl rfl) ?_;refine GT_st rfl rfl rfl rfl (V_len rfl Tryz.underlying43 rfl) ?_;refine GT_st rfl rfl rfl rfl (V_move rfl rfl) ?_;refine GT_nil ?_;refine GE_block ?_;refine GE_to (GE_loop (ι := Nat) (fun i => 1 - i) (fun i => [(0, ptr b q), (5, I (if i = 0 then 0 else wt * v)), (8, .slice A 1 c), (9, I 1), (10, I i)]) (fun i => []) (fun i => i ≤ 1) ?_ 0 ?_) ⟨rfl, rfl, rfl, rfl, rfl, trivial⟩ HS.nil
  · intro i hi ih
    refine GE_seq ?_;refine GE_plain (.st 0 .nil) rfl ?_;refine GT_st rfl rfl rfl rfl (V_lss rfl rfl rfl) ?_;refine GT_nil ?_;refine GE_seq ?_;refine GE_cond rfl (fun q1 => ?_) (fun q1 => ?_)
    · obtain rfl : i = 0 := (by omega)
      refine GE_skip ?_;refine GE_seq ?_;refine GE_block ?_;refine GE_seq ?_;refine GE_plain (.st 0 (.st 1 (.st 2 (.st 3 (.st 4 .nil))))) rfl ?_;refine GT_st rfl rfl rfl rfl (V_move rfl rfl) ?_;refine GT_st rfl rfl rfl rfl (V_index rfl rfl rfl Tryz.underlying43 sz_2 (k := 0) rfl z1 (hA.isSome (k := 0) z1)) ?_;refine GT_st rfl rfl rfl rfl (V_load rfl rfl ag_2 (show CellAt _ _ _ (I wt) from hA.at0 (k := 0) noM z1 rfl)) ?_;refine GT_st rfl rfl rfl rfl (V_assign rfl rfl) ?_;refine GT_st rfl rfl rfl rfl (V_assign rfl rfl) ?_;refine GT_nil ?_;refine GE_slots (L' := [(0, _), (5, _), (6, _), (7, _), (8, _), (9, _), (10, _)]) ⟨rfl, rfl, rfl, rfl, rfl, rfl, rfl, trivial⟩ ?_;refine GE_drawn (.st 0 (.st 1 (.st 2 (.st 3 (.st 4 (.st 5 (.st 6 (.st 7 (.st 8 (.st 9 (.st 10 (.st 11 (.st 12 (.st 13 (.st 14 (.st 15 (.st 16 (.st 17 (.ld 18 [] .nil))))))))))))))))))) [18] (by decide +kernel) ?_;refine GT_st rfl rfl rfl rfl (V_move rfl rfl) ?_;refine GT_st rfl rfl rfl rfl (V_move rfl rfl) ?_;refine GT_st rfl rfl rfl rfl (V_move rfl rfl) ?_;refine GT_st rfl rfl rfl rfl (V_move rfl rfl) ?_;refine GT_st rfl rfl rfl rfl (V_nilCheck rfl rfl) ?_;refine GT_st rfl rfl rfl rfl (V_field rfl rfl fo_548_1) ?_;refine GT_st rfl rfl rfl rfl (V_load rfl rfl ag_3 (CellAt.old (hb.cell hn) (noM _))) ?_;refine GT_st rfl rfl rfl rfl (V_add rfl rfl rfl (wrap_i64 (by omega))) ?_;refine GT_st rfl rfl rfl rfl (V_sub rfl rfl rfl (wrap_i64 (by omega))) ?_;refine GT_st rfl rfl rfl rfl (V_move rfl rfl) ?_;refine GT_st rfl rfl rfl rfl (V_sub rfl rfl rfl (wrap_i64 (by omega))) ?_;refine GT_st rfl rfl rfl rfl (V_rem rfl rfl rfl (by omega)) ?_;refine GT_st rfl rfl rfl rfl (V_nilCheck rfl rfl) ?_;refine GT_st rfl rfl rfl rfl (V_field rfl rfl fo_548_0) ?_
      refine GT_st rfl rfl rfl rfl (V_indexArr rfl rfl rfl Tryz.underlying546 sz_2 (kk := (k + 7) % 8) (rem87 hk) (by omega)) ?_;refine GT_st rfl rfl rfl rfl (V_load rfl rfl ag_2 (show CellAt _ _ ⟨b, q + 0 + (k + 7) % 8 * 1, none⟩ (I v) from (show q + 0 + (k + 7) % 8 * 1 = q + (k + 7) % 8 by omega) ▸ CellAt.old (hb.cell hv) (noM _))) ?_;refine GT_st rfl rfl rfl rfl (V_mul rfl rfl rfl (wrap_i64 (by omega))) ?_;refine GT_st rfl rfl rfl rfl (V_add rfl rfl rfl ((wrap_i64 (show -9223372036854775808 ≤ 0 + wt * v ∧ 0 + wt * v ≤ 9223372036854775807 by omega)))) ?_;refine GT_ldv rfl rfl rfl rfl rfl (V_assign rfl rfl) (GR_nil) ?_;refine GT_nil ?_;refine GE_inBlock ?_;refine GE_slots (L' := [(0, _), (5, _), (8, _), (9, _), (10, _)]) ⟨rfl, rfl, rfl, rfl, rfl, trivial⟩ ?_;refine GE_plain (.st 0 (.ld 1 [] .nil)) rfl ?_;refine GT_st rfl rfl rfl rfl (V_add rfl rfl rfl (wrap_i64 (by omega))) ?_;refine GT_ldv rfl rfl rfl rfl rfl (V_move rfl rfl) (GR_nil) ?_;refine GT_nil ?_
      exact GE_to (ih 1 (Nat.le_refl _) (show 1 - 1 < 1 - 0 by decide)) ⟨rfl, lookI rfl (show 0 + wt * v = wt * v by omega), rfl, rfl, rfl, trivial⟩ HS.nil
    · obtain rfl : i = 1 := (by omega)
      refine GE_exit rfl ?_;refine GE_seq ?_;refine GE_slots (L' := [(5, _)]) ⟨rfl, trivial⟩ ?_;refine GE_plain (.st 0 (.st 1 .nil)) rfl ?_;refine GT_st rfl rfl rfl rfl (V_move rfl rfl) ?_;refine GT_st rfl rfl rfl rfl (V_assign rfl rfl) ?_;refine GT_nil ?_;refine GE_ret Tryz.func355 rfl (fun w hw => ⟨?_, hw.nil⟩)
      rfl
  · exact Nat.zero_le _
theorem C_down {n : Int} (h : -1000000000000 ≤ n ∧ n ≤ 1000000000000) : Con0 Tryz.prog 354 [I n, I 256] w (I (n / 256)) := by
  have h1 := tdiv256 n
  refine Ret_of (vs := [_, _]) hm none' Tryz.func354 rfl Tryz.ntmps354 rfl ?_
  dsimp only [slotsOf]
  refine GE_seq ?_;refine GE_plain (.st 0 .nil) rfl ?_;refine GT_st rfl rfl rfl rfl (V_assign rfl rfl) ?_;refine GT_nil ?_;refine GE_seq ?_;refine GE_plain (.st 0 (.st 1 (.st 2 (.st 3 .nil)))) rfl ?_;refine GT_st rfl rfl rfl rfl (V_move rfl rfl) ?_;refine GT_st rfl rfl rfl rfl (V_move rfl rfl) ?_;refine GT_st rfl rfl rfl rfl (V_quo rfl rfl rfl (by omega) ((wrap_i64 (by omega)))) ?_;refine GT_st rfl rfl rfl rfl (V_assign rfl rfl) ?_;refine GT_nil ?_;refine GE_seq ?_;refine GE_seq ?_;refine GE_slots (L' := [(0, _), (1, _), (5, _)]) ⟨rfl, rfl, rfl, trivial⟩ ?_;refine GE_plain (.st 0 (.st 1 (.st 2 (.st 3 .nil)))) rfl ?_;refine GT_st rfl rfl rfl rfl (V_move rfl rfl) ?_;refine GT_st rfl rfl rfl rfl (V_move rfl rfl) ?_;refine GT_st rfl rfl rfl rfl (V_rem rfl rfl rfl (by omega)) ?_;refine GT_st rfl rfl rfl rfl (V_lss rfl rfl rfl) ?_;refine GT_nil ?_;refine GE_cond rfl (fun q1 => ?_) (fun q1 => ?_)
  · refine GE_slots (L' := [(5, _)]) ⟨rfl, trivial⟩ ?_;refine GE_plain (.st 0 (.st 1 (.ld 2 [] .nil))) rfl ?_;refine GT_st rfl rfl rfl rfl (V_move rfl rfl) ?_;refine GT_st rfl rfl rfl rfl (V_sub rfl rfl rfl (wrap_i64 (by omega))) ?_;refine GT_ldv rfl rfl rfl rfl rfl (V_assign rfl rfl) (GR_nil) ?_;refine GT_nil ?_;refine GE_seq ?_;refine GE_plain (.st 0 (.st 1 .nil)) rfl ?_;refine GT_st rfl rfl rfl rfl (V_move rfl rfl) ?_;refine GT_st rfl rfl rfl rfl (V_assign rfl rfl) ?_;refine GT_nil ?_;refine GE_ret Tryz.func354 rfl (fun w hw => ⟨?_, hw.nil⟩)
    refine congrArg I ?_; omega
  · refine GE_skip ?_;refine GE_seq ?_;refine GE_slots (L' := [(5, _)]) ⟨rfl, trivial⟩ ?_;refine GE_plain (.st 0 (.st 1 .nil)) rfl ?_;refine GT_st rfl rfl rfl rfl (V_move rfl rfl) ?_;refine GT_st rfl rfl rfl rfl (V_assign rfl rfl) ?_;refine GT_nil ?_;refine GE_ret Tryz.func354 rfl (fun w hw => ⟨?_, hw.nil⟩)
    refine congrArg I ?_; omega
end
end Go.Proofs.YtpbflnfcgcldkaaGreatDoor.Side
/- A curve on the example's numbers, walked. -/
namespace Go.Proofs.YtpbflnfcgcldkaaGreatDoor.Side
open Go.Sx Go.Proofs Go.RowKit
theorem putL_get {cells : List Value} {q k j : Nat} {n : Int} (h1 : j ≠ q + k) (h2 : j ≠ q + 8) : (putL cells q k n)[j]? = cells[j]? := by
  unfold putL; rw [List.getElem?_set_ne (by omega), List.getElem?_set_ne (by omega)]
theorem putL_len (cells : List Value) (q k : Nat) (n : Int) : (putL cells q k n).length = cells.length := by simp [putL]
structure StOk (cells : List Value) (k : Nat) (vi vo : Int) (AF AB : Option Addr) (cF cB : Nat) : Prop where
  len : cells.length = 21
  k4 : k < 8
  nO : cells[0 + 8]? = some (I k)
  nI : cells[9 + 8]? = some (I k)
  lO : cells[0 + (k + 7) % 8]? = some (I vo)
  lI : cells[9 + (k + 7) % 8]? = some (I vi)
  fd : cells[18]? = some (.slice AF 1 cF)
  bk : cells[19]? = some (.slice AB 1 cB)
  sh : cells[20]? = some (I 256)
  bi : -100000 ≤ vi ∧ vi ≤ 100000
  bo : -100000 ≤ vo ∧ vo ≤ 100000
section
variable {w w0 : World} {AF AB A : Option Addr} {cF cB c b b3 b5 bw k : Nat} {cells : List Value} {vi vo : Int} {H1 : Items}
set_option maxRecDepth 20000 in
theorem C_correction (hb : BlkAt w b cells 550) (hs : StOk cells k vi vo AF AB cF cB) (hF : RdL w 1 eN AF [64]) (hB : RdL w 1 eN AB [128]) : Con0 Tryz.prog 338 [ptr b 0] w (I ((64 * vi + 128 * vo) / 256)) := by
  have h1 := hs.bi
  have h2 := hs.bo
  refine Ret_of (vs := [_]) hm none' Tryz.func338 rfl Tryz.ntmps338 rfl ?_
  dsimp only [slotsOf]
  refine GE_seq ?_;refine GE_plain (.st 0 .nil) rfl ?_;refine GT_st rfl rfl rfl rfl (V_assign rfl rfl) ?_;refine GT_nil ?_;refine GE_seq ?_;refine GE_drawn (.st 0 (.st 1 (.st 2 (.st 3 (.st 4 (.st 5 (.st 6 (.st 7 (.st 9 (.st 10 (.st 11 (.st 12 (.st 13 (.st 14 (.st 15 (.st 16 (.st 19 (.st 20 (.st 21 (.st 22 (.st 23 (.ld 8 [9, 10, 11, 12, 13, 14, 15, 16, 19, 20, 21, 22, 23] (.ld 17 [19, 20, 21, 22, 23] (.st 18 (.ld 24 [] (.st 25 .nil)))))))))))))))))))))))))) [8, 17, 24] (by decide +kernel) ?_;refine GT_st rfl rfl rfl rfl (V_move rfl rfl) ?_;refine GT_st rfl rfl rfl rfl (V_nilCheck rfl rfl) ?_;refine GT_st rfl rfl rfl rfl (V_field rfl rfl fo_550_1) ?_;refine GT_st rfl rfl rfl rfl (V_move rfl rfl) ?_;refine GT_st rfl rfl rfl rfl (V_nilCheck rfl rfl) ?_;refine GT_st rfl rfl rfl rfl (V_field rfl rfl fo_550_2) ?_;refine GT_st rfl rfl rfl rfl (V_field rfl rfl fo_425_0) ?_;refine GT_st rfl rfl rfl rfl (V_load rfl rfl ag_43 (CellAt.old (hb.cell hs.fd) (noM _))) ?_;refine GT_st rfl rfl rfl rfl (V_move rfl rfl) ?_;refine GT_st rfl rfl rfl rfl (V_nilCheck rfl rfl) ?_;refine GT_st rfl rfl rfl rfl (V_field rfl rfl fo_550_0) ?_;refine GT_st rfl rfl rfl rfl (V_move rfl rfl) ?_;refine GT_st rfl rfl rfl rfl (V_nilCheck rfl rfl) ?_;refine GT_st rfl rfl rfl rfl (V_field rfl rfl fo_550_2) ?_;refine GT_st rfl rfl rfl rfl (V_field rfl rfl fo_425_1) ?_;refine GT_st rfl rfl rfl rfl (V_load rfl rfl ag_43 (CellAt.old (hb.cell hs.bk) (noM _))) ?_;refine GT_st rfl rfl rfl rfl (V_move rfl rfl) ?_;refine GT_st rfl rfl rfl rfl (V_nilCheck rfl rfl) ?_;refine GT_st rfl rfl rfl rfl (V_field rfl rfl fo_550_2) ?_;refine GT_st rfl rfl rfl rfl (V_field rfl rfl fo_425_2) ?_;refine GT_st rfl rfl rfl rfl (V_load rfl rfl ag_2 (CellAt.old (hb.cell hs.sh) (noM _))) ?_
  refine GT_call0 rfl rfl rfl rfl rfl rfl rfl rfl rn_355 (fun w hw => C_weigh (q := 9) (hb.sh hw) (hF.sh hw) hs.k4 hs.nI hs.lI (by decide) h1) (GR_cons rfl rfl rfl rfl (V_move rfl rfl) (GR_cons rfl rfl rfl rfl ((by first | exact V_nilCheck rfl rfl | exact V_nilCheck_func rfl rfl | exact V_nilCheck_yield rfl rfl | exact V_nilCheck_iface rfl rfl)) (GR_cons rfl rfl rfl rfl ((by first | exact V_field rfl rfl fo_550_0 | exact V_fieldA rfl rfl fo_550_0)) (GR_cons rfl rfl rfl rfl (V_move rfl rfl) (GR_cons rfl rfl rfl rfl ((by first | exact V_nilCheck rfl rfl | exact V_nilCheck_func rfl rfl | exact V_nilCheck_yield rfl rfl | exact V_nilCheck_iface rfl rfl)) (GR_cons rfl rfl rfl rfl ((by first | exact V_field rfl rfl fo_550_2 | exact V_fieldA rfl rfl fo_550_2)) (GR_cons rfl rfl rfl rfl ((by first | exact V_field rfl rfl fo_425_1 | exact V_fieldA rfl rfl fo_425_1)) (GR_cons rfl rfl rfl rfl (V_load rfl rfl ag_43 (CellAt.old (hb.cell hs.bk) (noM _))) (GR_cons rfl rfl rfl rfl (V_move rfl rfl) (GR_cons rfl rfl rfl rfl ((by first | exact V_nilCheck rfl rfl | exact V_nilCheck_func rfl rfl | exact V_nilCheck_yield rfl rfl | exact V_nilCheck_iface rfl rfl)) (GR_cons rfl rfl rfl rfl ((by first | exact V_field rfl rfl fo_550_2 | exact V_fieldA rfl rfl fo_550_2)) (GR_cons rfl rfl rfl rfl ((by first | exact V_field rfl rfl fo_425_2 | exact V_fieldA rfl rfl fo_425_2)) (GR_cons rfl rfl rfl rfl (V_load rfl rfl ag_2 (CellAt.old (hb.cell hs.sh) (noM _))) (GR_nil)))))))))))))) ?_
  refine GT_call0 rfl rfl rfl rfl rfl rfl rfl rfl rn_355 (fun w hw => C_weigh (q := 0) (hb.sh hw) (hB.sh hw) hs.k4 hs.nO hs.lO (by decide) h2) (GR_cons rfl rfl rfl rfl (V_move rfl rfl) (GR_cons rfl rfl rfl rfl ((by first | exact V_nilCheck rfl rfl | exact V_nilCheck_func rfl rfl | exact V_nilCheck_yield rfl rfl | exact V_nilCheck_iface rfl rfl)) (GR_cons rfl rfl rfl rfl ((by first | exact V_field rfl rfl fo_550_2 | exact V_fieldA rfl rfl fo_550_2)) (GR_cons rfl rfl rfl rfl ((by first | exact V_field rfl rfl fo_425_2 | exact V_fieldA rfl rfl fo_425_2)) (GR_cons rfl rfl rfl rfl (V_load rfl rfl ag_2 (CellAt.old (hb.cell hs.sh) (noM _))) (GR_nil)))))) ?_;refine GT_st rfl rfl rfl rfl (V_add rfl rfl rfl (wrap_i64 (by omega))) ?_;refine GT_call0 rfl rfl rfl rfl rfl rfl rfl rfl rn_354 (fun w hw => C_down (by omega)) (GR_nil) ?_;refine GT_st rfl rfl rfl rfl (V_assign rfl rfl) ?_;refine GT_nil ?_;refine GE_ret Tryz.func338 rfl (fun w hw => ⟨?_, hw.nil⟩)
  rfl
abbrev stH (b b5 b3 : Nat) (cells : List Value) : Items := (b, blk cells 550) :: (b5, blk [ptr b 0] 545) :: (b3, blk [.bool false] 4) :: []
set_option maxRecDepth 20000 in
theorem C_step1 {n : Int} (m : SH w0 none' ((b, blk cells 550) :: (b5, blk [ptr b 0] 545) :: (b3, blk [.bool false] 4) :: H1) w) (hs : StOk cells k vi vo AF AB cF cB) (hF : RdL w0 1 eN AF [64]) (hB : RdL w0 1 eN AB [128]) (hn : -100000 ≤ n ∧ n ≤ 100000) :
    Ret Tryz.prog 337 [I n, ptr b3 0, ptr b5 0].toArray w fun r w' => ∃ _ : Unit, True ∧ r = I (n + (64 * vi + 128 * vo) / 256) ∧ SH w0 none' ((b, blk (putL (putL cells 9 k n) 0 k (n + (64 * vi + 128 * vo) / 256)) 550) :: (b5, blk [ptr b 0] 545) :: (b3, blk [.bool false] 4) :: H1) w' := by
  have h1 := hs.bi
  have h2 := hs.bo
  have h3 := hs.k4
  have hl := hs.len
  have hn0 : (putL cells 9 k n)[0 + 8]? = some (I k) := by rw [putL_get (by omega) (by omega)]; exact hs.nO
  have hl2 := putL_len cells 9 k n
  refine Ret_ofH (vs := [_, _, _]) hm none' Tryz.func337 rfl Tryz.ntmps337 rfl m ?_
  dsimp only [slotsOf]
  refine GE_seq ?_;refine GE_plain (.st 0 .nil) rfl ?_;refine GT_st rfl rfl rfl rfl (V_assign rfl rfl) ?_;refine GT_nil ?_;refine GE_seq ?_;refine GE_plain (.st 0 (.st 1 (.st 2 (.st 3 .nil)))) rfl ?_;refine GT_st rfl rfl rfl rfl (V_move rfl rfl) ?_;refine GT_st rfl rfl rfl rfl (V_move rfl rfl) ?_;refine GT_st rfl rfl rfl rfl (V_assign rfl rfl) ?_;refine GT_st rfl rfl rfl rfl (V_assign rfl rfl) ?_;refine GT_nil ?_;refine GE_seq ?_;refine GE_seq ?_;refine GE_slots (L' := [(1, _), (2, _), (5, _), (6, _)]) ⟨rfl, rfl, rfl, rfl, trivial⟩ ?_;refine GE_plain (.st 0 .nil) rfl ?_;refine GT_st rfl rfl rfl rfl (V_load rfl rfl ag_4 (CellAt.item rfl)) ?_;refine GT_nil ?_;refine GE_cond_f rfl ?_;refine GE_skip ?_;refine GE_seq ?_;refine GE_plain (.st 0 (.st 1 (.ld 2 [] (.st 3 (.ld 4 [] .nil))))) rfl ?_;refine GT_st rfl rfl rfl rfl (V_move rfl rfl) ?_;refine GT_st rfl rfl rfl rfl (V_load rfl rfl ag_545 (CellAt.item rfl)) ?_;refine GT_call0 rfl rfl rfl rfl rfl rfl rfl rfl rn_338 (fun w hw => C_correction (BlkAt.of hw) hs (hF.sh hw) (hB.sh hw)) (GR_nil) ?_;refine GT_st rfl rfl rfl rfl (V_add rfl rfl rfl (wrap_i64 (by omega))) ?_;refine GT_ldv rfl rfl rfl rfl rfl (V_assign rfl rfl) (GR_nil) ?_;refine GT_nil ?_;refine GE_seq ?_;refine GE_slots (L' := [(2, _), (5, _), (6, _)]) ⟨rfl, rfl, rfl, trivial⟩ ?_;refine GE_plain (.st 0 (.st 1 (.st 2 (.st 3 (.ld 4 [] .nil))))) rfl ?_;refine GT_st rfl rfl rfl rfl (V_load rfl rfl ag_545 (CellAt.item rfl)) ?_;refine GT_st rfl rfl rfl rfl (V_nilCheck rfl rfl) ?_;refine GT_st rfl rfl rfl rfl (V_field rfl rfl fo_550_1) ?_;refine GT_st rfl rfl rfl rfl (V_move rfl rfl) ?_;refine GT_callX rfl rfl rfl rfl rfl rfl rfl rfl rn_339 (fun w m => C_put (q := 9) (k := k) (m.hs (HS.cons rfl HS.all)) h3 hs.nI (by omega)) (fun _ _ => GR_nil) (fun _ _ => ?_)
  refine GT_nil ?_;refine GE_seq ?_;refine GE_slots (L' := [(2, _), (6, _)]) ⟨rfl, rfl, trivial⟩ ?_;refine GE_plain (.st 0 (.st 1 (.st 2 (.st 3 (.ld 4 [] .nil))))) rfl ?_;refine GT_st rfl rfl rfl rfl (V_load rfl rfl ag_545 (CellAt.item rfl)) ?_;refine GT_st rfl rfl rfl rfl (V_nilCheck rfl rfl) ?_;refine GT_st rfl rfl rfl rfl (V_field rfl rfl fo_550_0) ?_;refine GT_st rfl rfl rfl rfl (V_move rfl rfl) ?_;refine GT_callX rfl rfl rfl rfl rfl rfl rfl rfl rn_339 (fun w m => C_put (q := 0) (k := k) (m.hs (HS.cons rfl HS.all)) h3 hn0 (by omega)) (fun _ _ => GR_nil) (fun _ _ => ?_)
  refine GT_nil ?_;refine GE_seq ?_;refine GE_slots (L' := [(6, _)]) ⟨rfl, trivial⟩ ?_;refine GE_plain (.st 0 (.st 1 .nil)) rfl ?_;refine GT_st rfl rfl rfl rfl (V_move rfl rfl) ?_;refine GT_st rfl rfl rfl rfl (V_assign rfl rfl) ?_;refine GT_nil ?_;refine GE_ret Tryz.func337 rfl (fun w hw => ?_)
  exact ⟨(), trivial, rfl, hw.hs (C := cx Tryz.prog hm 0 0 w0 none' fun _ _ => True) (HS.cons rfl (HS.cons rfl (HS.cons rfl (HS.last (I := H1)))))⟩
theorem C_within1 {n : Int} (h : -32767 ≤ n ∧ n ≤ 32767) (hb : BlkAt w bw [I 32767] 2) : Con0 Tryz.prog 340 [I n, ptr bw 0] w (.bool true) := by
  refine Ret_of (vs := [_, _]) hm none' Tryz.func340 rfl Tryz.ntmps340 rfl ?_
  dsimp only [slotsOf]
  refine GE_seq ?_;refine GE_plain (.st 0 .nil) rfl ?_;refine GT_st rfl rfl rfl rfl (V_assign rfl rfl) ?_;refine GT_nil ?_;refine GE_seq ?_;refine GE_plain (.st 0 (.st 1 (.ld 2 [] (.st 3 (.st 4 .nil))))) rfl ?_;refine GT_st rfl rfl rfl rfl (V_move rfl rfl) ?_;refine GT_st rfl rfl rfl rfl (V_load rfl rfl ag_2 (CellAt.old (hb.cell rfl) (noM _))) ?_;refine GT_call0 rfl rfl rfl rfl rfl rfl rfl rfl rn_341 (fun w hw => C_beyond ⟨by decide, h⟩) (GR_nil) ?_;refine GT_st rfl rfl rfl rfl (V_notB rfl rfl) ?_;refine GT_st rfl rfl rfl rfl (V_assign rfl rfl) ?_;refine GT_nil ?_;refine GE_ret Tryz.func340 rfl (fun w hw => ⟨?_, hw.nil⟩)
  rfl
theorem C_within : Con Tryz.prog 317 [I 32767] w (fun _ : Nat => True) (fun b => .func (.func 340) #[] #[ptr b 0]) (fun b => [(b, blk [I 32767] 2)]) := by
  refine Ret_of (vs := [_]) hm none' Tryz.func317 rfl Tryz.ntmps317 rfl ?_
  dsimp only [slotsOf]
  refine GE_seq ?_;refine GE_plain (.ld 0 [] (.st 1 .nil)) rfl ?_;refine GT_box (z := [_]) rfl rfl rfl rfl rfl rfl rfl (fun _ => GR_nil) (fun b1 => ?_)
  refine GT_st rfl rfl rfl rfl (V_assign rfl rfl) ?_;refine GT_nil ?_;refine GE_seq ?_;refine GE_plain (.st 0 (.st 1 .nil)) rfl ?_;refine GT_st rfl rfl rfl rfl (V_makeFunc rfl rfl rfl) ?_;refine GT_st rfl rfl rfl rfl (V_assign rfl rfl) ?_;refine GT_nil ?_;refine GE_ret Tryz.func317 rfl (fun w hw => ?_)
  exact ⟨_, trivial, rfl, hw.hs (C := cx Tryz.prog hm 0 0 _ none' fun _ _ => True) (HS.cons rfl HS.nil)⟩
abbrev st0 (AF AB : Option Addr) (cF cB : Nat) : List Value := [I 0, I 0, I 0, I 0, I 0, I 0, I 0, I 0, I 0, I 0, I 0, I 0, I 0, I 0, I 0, I 0, I 0, I 0, .slice AF 1 cF, .slice AB 1 cB, I 256]
theorem C_step : Con Tryz.prog 316 [.agg #[.slice AF 1 cF, .slice AB 1 cB, I 256], .bool false] w (fun _ : Nat × Nat × Nat => True) (fun y => .func (.func 337) #[] #[ptr y.2.2 0, ptr y.2.1 0]) (fun y => stH y.1 y.2.1 y.2.2 (st0 AF AB cF cB)) := by
  refine Ret_of (vs := [_, _]) hm none' Tryz.func316 rfl Tryz.ntmps316 rfl ?_
  dsimp only [slotsOf]
  refine GE_seq ?_;refine GE_plain (.ld 0 [] (.ld 1 [] (.st 2 .nil))) rfl ?_;refine GT_box (z := [_, _, _]) rfl rfl rfl rfl rfl rfl rfl (fun _ => GR_nil) (fun b2 => ?_)
  refine GT_box (z := [_]) rfl rfl rfl rfl rfl rfl rfl (fun _ => GR_nil) (fun b3 => ?_)
  refine GT_st rfl rfl rfl rfl (V_assign rfl rfl) ?_;refine GT_nil ?_;refine GE_seq ?_;refine GE_plain (.st 0 (.st 1 (.ld 2 [] (.ld 3 [] (.ld 4 [] .nil))))) rfl ?_;refine GT_st rfl rfl rfl rfl (V_loadN (vs := [_, _, _]) rfl rfl ag_425 sz_425 rfl (CellsAt.item rfl)) ?_;refine GT_st rfl rfl rfl rfl (V_build (vs := [_, _, _, _, _, _, _, _, _, _, _, _, _, _, _, _, _, _, _, _, _]) rfl rfl zc_550 pl_550 sa_550 rfl) ?_;refine GT_box (z := [_, _, _, _, _, _, _, _, _, _, _, _, _, _, _, _, _, _, _, _, _]) rfl rfl rfl rfl rfl rfl rfl (fun _ => GR_nil) (fun b8 => ?_)
  refine GT_alloc rfl rfl rfl rfl rfl zc_545 (fun _ => GR_nil) (fun b5 => ?_)
  refine GT_store (vs := [_]) (l' := [_]) rfl rfl rfl rfl rfl rfl rfl sz_545 rfl rfl (Nat.le_of_ble_eq_true rfl) rfl (GR_nil) ?_;refine GT_nil ?_;refine GE_seq ?_;refine GE_slots (L' := [(3, _), (5, _)]) ⟨rfl, rfl, trivial⟩ ?_;refine GE_plain (.st 0 (.st 1 .nil)) rfl ?_;refine GT_st rfl rfl rfl rfl (V_makeFunc rfl rfl rfl) ?_;refine GT_st rfl rfl rfl rfl (V_assign rfl rfl) ?_;refine GT_nil ?_;refine GE_ret Tryz.func316 rfl (fun w hw => ?_)
  exact ⟨(b8, b5, b3), trivial, rfl, hw.hs (C := cx Tryz.prog hm 0 0 _ none' fun _ _ => True) (HS.cons rfl (HS.cons rfl (HS.cons rfl HS.nil)))⟩
end
end Go.Proofs.YtpbflnfcgcldkaaGreatDoor.Side
/- A curve on the example's numbers: Apply, walked. -/
namespace Go.Proofs.YtpbflnfcgcldkaaGreatDoor.Side
open Go.Sx Go.Proofs Go.RowKit
def xsE : List Int := [100, 0, 0, -3]
def ysE : List Int := [100, 75, 37, 15]
def viE : List Int := [0, 100, 0, 0]
def voE : List Int := [0, 100, 75, 37]
def exS (AF AB : Option Addr) (cF cB : Nat) : Nat → List Value
  | 0 => [I 0, I 0, I 0, I 0, I 0, I 0, I 0, I 0, I 0, I 0, I 0, I 0, I 0, I 0, I 0, I 0, I 0, I 0, .slice AF 1 cF, .slice AB 1 cB, I 256]
  | 1 => [I 100, I 0, I 0, I 0, I 0, I 0, I 0, I 0, I 1, I 100, I 0, I 0, I 0, I 0, I 0, I 0, I 0, I 1, .slice AF 1 cF, .slice AB 1 cB, I 256]
  | 2 => [I 100, I 75, I 0, I 0, I 0, I 0, I 0, I 0, I 2, I 100, I 0, I 0, I 0, I 0, I 0, I 0, I 0, I 2, .slice AF 1 cF, .slice AB 1 cB, I 256]
  | 3 => [I 100, I 75, I 37, I 0, I 0, I 0, I 0, I 0, I 3, I 100, I 0, I 0, I 0, I 0, I 0, I 0, I 0, I 3, .slice AF 1 cF, .slice AB 1 cB, I 256]
  | _ => [I 100, I 75, I 37, I 15, I 0, I 0, I 0, I 0, I 4, I 100, I 0, I 0, I (-3), I 0, I 0, I 0, I 0, I 4, .slice AF 1 cF, .slice AB 1 cB, I 256]
section
variable {AF AB : Option Addr} {cF cB k : Nat}
theorem exOk (hk : k < 4) : StOk (exS AF AB cF cB k) k (viE.getD k 0) (voE.getD k 0) AF AB cF cB := by
  rcases (show k = 0 ∨ k = 1 ∨ k = 2 ∨ k = 3 by omega) with rfl | rfl | rfl | rfl <;> exact ⟨rfl, by decide, rfl, rfl, rfl, rfl, rfl, rfl, rfl, by decide, by decide⟩
theorem exY (hk : k < 4) : xsE.getD k 0 + (64 * viE.getD k 0 + 128 * voE.getD k 0) / 256 = ysE.getD k 0 := by
  rcases (show k = 0 ∨ k = 1 ∨ k = 2 ∨ k = 3 by omega) with rfl | rfl | rfl | rfl <;> decide
theorem exStep (hk : k < 4) : putL (putL (exS AF AB cF cB k) 9 k (xsE.getD k 0)) 0 k (ysE.getD k 0) = exS AF AB cF cB (k + 1) := by
  rcases (show k = 0 ∨ k = 1 ∨ k = 2 ∨ k = 3 by omega) with rfl | rfl | rfl | rfl <;> rfl
theorem xsE_bd (hk : k < 4) : -32767 ≤ xsE.getD k 0 ∧ xsE.getD k 0 ≤ 32767 := by
  rcases (show k = 0 ∨ k = 1 ∨ k = 2 ∨ k = 3 by omega) with rfl | rfl | rfl | rfl <;> decide
theorem ysE_bd (hk : k < 4) : -32767 ≤ ysE.getD k 0 ∧ ysE.getD k 0 ≤ 32767 := by
  rcases (show k = 0 ∨ k = 1 ∨ k = 2 ∨ k = 3 by omega) with rfl | rfl | rfl | rfl <;> decide
theorem ysE_take (hk : k < 4) : ysE.take k ++ [ysE.getD k 0] = ysE.take (k + 1) := by
  rcases (show k = 0 ∨ k = 1 ∨ k = 2 ∨ k = 3 by omega) with rfl | rfl | rfl | rfl <;> rfl
theorem ysE_len (hk : k ≤ 4) : (ysE.take k).length = k := by rw [List.length_take]; show min k 4 = k; omega
end
section
variable {w w0 : World} {AF AB A AX : Option Addr} {cF cB c cX b b3 b5 bw : Nat} {IX H1 : Items}
set_option maxRecDepth 20000 in
theorem C_each (m : SH w0 none' ((b, blk (exS AF AB cF cB 0) 550) :: (b5, blk [ptr b 0] 545) :: (b3, blk [.bool false] 4) :: (bw, blk [I 32767] 2) :: (IX ++ H1)) w) (hX : Own 1 2 eN xsE (.slice A 4 c) IX) (hF : RdL w0 1 eN AF [64]) (hB : RdL w0 1 eN AB [128]) :
    Ret Tryz.prog 315 [.slice A 4 c, .func (.func 337) #[] #[ptr b3 0, ptr b5 0], .func (.func 340) #[] #[ptr bw 0]].toArray w fun r w' => ∃ y : Option Addr × Nat × Items, Own 1 2 eN ysE (.slice y.1 4 y.2.1) y.2.2 ∧ r = .tuple #[.slice y.1 4 y.2.1, I 0] ∧ SH w0 none' (y.2.2 ++ H1) w' := by
  refine Ret_ofH (vs := [_, _, _]) hm none' Tryz.func315 rfl Tryz.ntmps315 rfl m ?_
  dsimp only [slotsOf]
  refine GE_seq ?_;refine GE_plain (.st 0 (.st 1 .nil)) rfl ?_;refine GT_st rfl rfl rfl rfl (V_assign rfl rfl) ?_;refine GT_st rfl rfl rfl rfl (V_assign rfl rfl) ?_;refine GT_nil ?_;refine GE_seq ?_;refine GE_plain (.st 0 (.st 1 (.ld 2 [] (.st 3 .nil)))) rfl ?_;refine GT_st rfl rfl rfl rfl (V_move rfl rfl) ?_;refine GT_st rfl rfl rfl rfl (V_len rfl Tryz.underlying43 rfl) ?_;refine GT_makeSliceC (mm := 0) (nn := 4) rfl rfl rfl rfl rfl rfl rfl Tryz.underlying43 zc_2 sz_2 by_2 ⟨rfl, rfl, rfl⟩ (by decide) (by decide) (fun _ => GR_nil) (fun b14 => ?_)
  refine GT_st rfl rfl rfl rfl (V_assign rfl rfl) ?_;refine GT_nil ?_;refine GE_seq ?_;refine GE_seq ?_;refine GE_slots (L' := [(0, _), (1, _), (2, _), (8, _)]) ⟨rfl, rfl, rfl, rfl, trivial⟩ ?_;refine GE_plain (.st 0 (.st 1 (.st 2 .nil))) rfl ?_;refine GT_st rfl rfl rfl rfl (V_move rfl rfl) ?_;refine GT_st rfl rfl rfl rfl (V_len rfl Tryz.underlying43 rfl) ?_;refine GT_st rfl rfl rfl rfl (V_move rfl rfl) ?_;refine GT_nil ?_;refine GE_block ?_;refine GE_to (GE_loop (ι := Nat × (Option Addr × Nat × Items)) (fun z => 4 - z.1) (fun z => [(1, .func (.func 337) #[] #[ptr b3 0, ptr b5 0]), (2, .func (.func 340) #[] #[ptr bw 0]), (8, .slice z.2.1 z.1 z.2.2.1), (15, .slice A 4 c), (16, I 4), (17, I z.1)]) (fun z => (b, blk (exS AF AB cF cB z.1) 550) :: (b5, blk [ptr b 0] 545) :: (b3, blk [.bool false] 4) :: (bw, blk [I 32767] 2) :: (IX ++ (z.2.2.2 ++ H1))) (fun z => z.1 ≤ 4 ∧ Own 1 2 eN (ysE.take z.1) (.slice z.2.1 z.1 z.2.2.1) z.2.2.2) ?_ (0, (some ⟨b14, 0, none⟩, 4, [(b14, blk ((List.replicate 4 [I 0]).flatten) 2)])) ?_) ⟨rfl, rfl, rfl, rfl, rfl, rfl, trivial⟩ (HS.cons rfl (HS.cons rfl (HS.cons rfl (HS.cons rfl (HS.chunk (HS.cons rfl (HS.last (I := H1))))))))
  · rintro ⟨k, y⟩ ⟨hk, hO⟩ ih; dsimp only at hk hO ih ⊢
    refine GE_seq ?_;refine GE_plain (.st 0 .nil) rfl ?_;refine GT_st rfl rfl rfl rfl (V_lss rfl rfl rfl) ?_;refine GT_nil ?_;refine GE_seq ?_;refine GE_cond rfl (fun q1 => ?_) (fun q1 => ?_)
    · have hk4 : k < 4 := (by omega)
      refine GE_skip ?_;refine GE_seq ?_;refine GE_block ?_;refine GE_seq ?_;refine GE_plain (.st 0 (.st 1 (.st 2 .nil))) rfl ?_;refine GT_st rfl rfl rfl rfl (V_index rfl rfl rfl Tryz.underlying43 sz_2 (k := k) rfl hk4 (hX.isSome (k := k) hk4)) ?_;refine GT_st rfl rfl rfl rfl (V_load rfl rfl ag_2 (CellAt.own0 (k := k) hX eN_len hk4 (show _ = some (I (xsE.getD k 0)) from rfl))) ?_;refine GT_st rfl rfl rfl rfl (V_assign rfl rfl) ?_;refine GT_nil ?_;refine GE_seq ?_;refine GE_plain (.st 0 (.st 1 (.ld 2 [] (.st 3 .nil)))) rfl ?_;refine GT_st rfl rfl rfl rfl (V_move rfl rfl) ?_;refine GT_st rfl rfl rfl rfl (V_move rfl rfl) ?_;refine GT_callX rfl rfl rfl rfl rfl rfl rfl rfl rn_337 (fun w m => C_step1 (b := b) (b5 := b5) (b3 := b3) (cells := exS AF AB cF cB k) (n := xsE.getD k 0) (m.hs (HS.cons rfl (HS.cons rfl (HS.cons rfl HS.all)))) (exOk hk4) hF hB (by have := xsE_bd hk4; omega)) (fun _ _ => GR_nil) (fun _ _ => ?_)
      rw [exY hk4, exStep hk4]
      refine GT_st rfl rfl rfl rfl (V_assign rfl rfl) ?_;refine GT_nil ?_;refine GE_seq ?_;refine GE_seq ?_;refine GE_slots (L' := [(1, _), (2, _), (8, _), (11, _), (15, _), (16, _), (17, _)]) ⟨rfl, rfl, rfl, rfl, rfl, rfl, rfl, trivial⟩ ?_;refine GE_plain (.st 0 (.st 1 (.ld 2 [] (.st 3 .nil)))) rfl ?_;refine GT_st rfl rfl rfl rfl (V_move rfl rfl) ?_;refine GT_st rfl rfl rfl rfl (V_move rfl rfl) ?_;refine GT_call0 rfl rfl rfl rfl rfl rfl rfl rfl rn_340 (fun w hw => C_within1 (ysE_bd hk4) (BlkAt.of hw)) (GR_nil) ?_;refine GT_st rfl rfl rfl rfl (V_notB rfl rfl) ?_;refine GT_nil ?_;refine GE_cond_f rfl ?_;refine GE_skip ?_;refine GE_slots (L' := [(1, _), (2, _), (8, _), (11, _), (15, _), (16, _), (17, _)]) ⟨rfl, rfl, rfl, rfl, rfl, rfl, rfl, trivial⟩ ?_;refine GE_plain (.st 0 (.st 1 (.ld 2 [] (.ld 3 [] (.ld 4 [] .nil))))) rfl ?_;refine GT_st rfl rfl rfl rfl (V_move rfl rfl) ?_;refine GT_st rfl rfl rfl rfl (V_move rfl rfl) ?_;refine GT_buildSlice (z := [_]) rfl rfl rfl rfl rfl Tryz.underlying43 zc_2 sz_2 (by decide) rfl rfl (fun _ => GR_nil) (fun b30 => ?_)
      refine GT_append (enc := eN) (l := ysE.take k) (m := [ysE.getD k 0]) rfl rfl rfl rfl rfl rfl rfl hO (fun w m => RdL.own' m eN_len) Tryz.underlying43 zc_2 sz_2 ⟨rfl, by decide⟩ by_2 ⟨by rw [ysE_len hk]; simp only [List.length_singleton]; omega, by rw [ysE_len hk]; simp only [List.length_singleton]; omega⟩ eN_len eN_one (fun _ _ _ _ => GR_nil) (fun A3 c3 I3 hO3 => ?_)
      rw [ysE_take hk4, ysE_len (k := k + 1) (by omega)] at hO3 ⊢
      refine GT_ldv rfl rfl rfl rfl rfl (V_assign rfl rfl) (GR_nil) ?_;refine GT_nil ?_;refine GE_inBlock ?_;refine GE_slots (L' := [(1, _), (2, _), (8, _), (15, _), (16, _), (17, _)]) ⟨rfl, rfl, rfl, rfl, rfl, rfl, trivial⟩ ?_;refine GE_plain (.st 0 (.ld 1 [] .nil)) rfl ?_;refine GT_st rfl rfl rfl rfl (V_add rfl rfl rfl (wrap_i64 (by omega))) ?_;refine GT_ldv rfl rfl rfl rfl rfl (V_move rfl rfl) (GR_nil) ?_;refine GT_nil ?_
      exact GE_to (ih (k + 1, (A3, c3, I3)) ⟨by dsimp only; omega, hO3⟩ (by dsimp only; omega)) ⟨rfl, rfl, rfl, rfl, rfl, rfl, trivial⟩ (HS.cons rfl (HS.cons rfl (HS.cons rfl (HS.cons rfl (HS.chunk (HS.chunk (HS.last (I := H1))))))))
    · obtain rfl : k = 4 := (by omega)
      refine GE_exit rfl ?_;refine GE_seq ?_;refine GE_slots (L' := [(8, _)]) ⟨rfl, trivial⟩ ?_;refine GE_plain (.st 0 (.st 1 (.st 2 .nil))) rfl ?_;refine GT_st rfl rfl rfl rfl (V_move rfl rfl) ?_;refine GT_st rfl rfl rfl rfl (V_assign rfl rfl) ?_;refine GT_st rfl rfl rfl rfl (V_assign rfl rfl) ?_;refine GT_nil ?_;refine GE_ret Tryz.func315 ⟨_, _, rfl, rfl, rfl⟩ (fun w hw => ?_)
      exact ⟨y, hO, rfl, hw.hs (C := cx Tryz.prog hm 0 0 w0 none' fun _ _ => True) (HS.chunk (HS.last (I := H1)))⟩
  · exact ⟨Nat.zero_le _, .inr ⟨b14, 4, [I 0, I 0, I 0, I 0], rfl, rfl, rfl, Nat.zero_le _, by unfold maxLen; decide⟩⟩
theorem C_CloneL (h : RdL w 1 eN A xsE) (hA : A.isSome = true) : Con Tryz.prog 65 [.slice A 4 c] w (fun y : Option Addr × Nat × Items => Own 1 2 eN xsE (.slice y.1 4 y.2.1) y.2.2) (fun y => .slice y.1 4 y.2.1) (fun y => y.2.2) := by
  obtain ⟨a, rfl⟩ := Option.isSome_iff_exists.1 hA
  refine Ret_of (vs := [_]) hm none' Tryz.func65 rfl Tryz.ntmps65 rfl ?_
  dsimp only [slotsOf]
  refine GE_seq ?_;refine GE_plain (.st 0 .nil) rfl ?_;refine GT_st rfl rfl rfl rfl (V_assign rfl rfl) ?_;refine GT_nil ?_;refine GE_seq ?_;refine GE_seq ?_;refine GE_plain (.st 0 (.st 1 .nil)) rfl ?_;refine GT_st rfl rfl rfl rfl (V_move rfl rfl) ?_;refine GT_st rfl rfl rfl rfl (V_eqlNilF rfl rfl rfl Tryz.underlying43) ?_;refine GT_nil ?_;refine GE_cond_f rfl ?_;refine GE_skip ?_;refine GE_seq ?_;refine GE_plain (.ld 0 [] (.st 1 (.ld 2 [] (.st 3 .nil)))) rfl ?_;refine GT_buildSlice (z := []) rfl rfl rfl rfl rfl Tryz.underlying43 zc_2 sz_2 (by decide) rfl rfl (fun _ => GR_nil) (fun b5 => ?_)
  have ho5 : Own 1 2 eN [] (.slice (some ⟨b5, 0, none⟩) 0 0) [(b5, blk [] 2)] := Own.lit rfl rfl (by decide)
  refine GT_st rfl rfl rfl rfl (V_move rfl rfl) ?_;refine GT_append (enc := eN) (l := []) (m := xsE) rfl rfl rfl rfl rfl rfl rfl ho5 (fun w m => h.sh m) Tryz.underlying43 zc_2 sz_2 ⟨rfl, by decide⟩ by_2 ⟨by decide, by decide⟩ eN_len eN_one (fun _ _ _ _ => GR_nil) (fun A3 c3 I3 hO3 => ?_)
  refine GT_st rfl rfl rfl rfl (V_assign rfl rfl) ?_;refine GT_nil ?_;refine GE_ret Tryz.func65 rfl (fun w hw => ?_)
  exact ⟨(A3, c3, I3), hO3, rfl, hw.hs (C := cx Tryz.prog hm 0 0 _ none' fun _ _ => True) HS.last⟩
set_option maxRecDepth 20000 in
theorem C_chain {bc : Nat} (hF : RdL w 1 eN AF [64]) (hB : RdL w 1 eN AB [128]) (hb : BlkAt w bc [.slice AF 1 cF, .slice AB 1 cB, I 256] 425) (hX : RdL w 1 eN AX xsE) (hA : AX.isSome = true) :
    Con Tryz.prog 283 [.slice (some ⟨bc, 0, none⟩) 1 1, .slice AX 4 cX, .bool false] w (fun y : Option Addr × Nat × Items => Own 1 2 eN ysE (.slice y.1 4 y.2.1) y.2.2) (fun y => .tuple #[.slice y.1 4 y.2.1, I 0]) (fun y => y.2.2) := by
  refine Ret_of (vs := [_, _, _]) hm none' Tryz.func283 rfl Tryz.ntmps283 rfl ?_
  dsimp only [slotsOf]
  refine GE_seq ?_;refine GE_plain (.st 0 (.st 1 .nil)) rfl ?_;refine GT_st rfl rfl rfl rfl (V_assign rfl rfl) ?_;refine GT_st rfl rfl rfl rfl (V_assign rfl rfl) ?_;refine GT_nil ?_;refine GE_seq ?_;refine GE_seq ?_;refine GE_plain (.st 0 (.ld 1 [] (.st 2 .nil))) rfl ?_;refine GT_st rfl rfl rfl rfl (V_move rfl rfl) ?_;refine GT_call0 rfl rfl rfl rfl rfl rfl rfl rfl rn_313 (fun w hw => C_checkChain (hF.sh hw) (hB.sh hw) (hb.sh hw)) (GR_nil) ?_;refine GT_st rfl rfl rfl rfl (V_assign rfl rfl) ?_;refine GT_nil ?_;refine GE_seq ?_;refine GE_slots (L' := [(0, _), (1, _), (2, _), (8, _)]) ⟨rfl, rfl, rfl, rfl, trivial⟩ ?_;refine GE_plain (.st 0 (.st 1 .nil)) rfl ?_;refine GT_st rfl rfl rfl rfl (V_move rfl rfl) ?_;refine GT_st rfl rfl rfl rfl (V_isF (V_neq rfl rfl rfl) (fun q => q rfl)) ?_;refine GT_nil ?_;refine GE_cond_f rfl ?_;refine GE_skip ?_;refine GE_seq ?_;refine GE_seq ?_;refine GE_plain (.st 0 (.ld 1 [] (.st 2 .nil))) rfl ?_;refine GT_st rfl rfl rfl rfl (V_move rfl rfl) ?_;refine GT_call0 rfl rfl rfl rfl rfl rfl rfl rfl rn_314 (fun w hw => C_checkSignal (l := xsE) (hX.sh hw) (by decide) (by decide)) (GR_nil) ?_;refine GT_st rfl rfl rfl rfl (V_assign rfl rfl) ?_;refine GT_nil ?_;refine GE_seq ?_;refine GE_slots (L' := [(0, _), (1, _), (2, _), (9, _)]) ⟨rfl, rfl, rfl, rfl, trivial⟩ ?_;refine GE_plain (.st 0 (.st 1 .nil)) rfl ?_;refine GT_st rfl rfl rfl rfl (V_move rfl rfl) ?_;refine GT_st rfl rfl rfl rfl (V_isF (V_neq rfl rfl rfl) (fun q => q rfl)) ?_;refine GT_nil ?_;refine GE_cond_f rfl ?_;refine GE_skip ?_;refine GE_seq ?_;refine GE_plain (.st 0 (.ld 1 [] (.ld 2 [] .nil))) rfl ?_;refine GT_st rfl rfl rfl rfl (V_move rfl rfl) ?_;refine GT_call rfl rfl rfl rfl rfl rfl rfl rfl rn_65 (fun w hw => C_CloneL (hX.sh hw) hA) (fun _ _ => GR_nil) (fun y0 hy0 => ?_)
  refine GT_ldv rfl rfl rfl rfl rfl (V_assign rfl rfl) (GR_nil) ?_;refine GT_nil ?_;refine GE_seq ?_;refine GE_seq ?_;refine GE_slots (L' := [(0, _), (1, _), (2, _)]) ⟨rfl, rfl, rfl, trivial⟩ ?_;refine GE_plain (.st 0 (.st 1 (.st 2 .nil))) rfl ?_;refine GT_st rfl rfl rfl rfl (V_move rfl rfl) ?_;refine GT_st rfl rfl rfl rfl (V_len rfl Tryz.underlying487 rfl) ?_;refine GT_st rfl rfl rfl rfl (V_move rfl rfl) ?_;refine GT_nil ?_;refine GE_block ?_;refine GE_to (GE_loop (ι := Nat × (Option Addr × Nat × Items)) (fun z => 1 - z.1) (fun z => [(0, .slice (some ⟨bc, 0, none⟩) 1 1), (1, .slice z.2.1 4 z.2.2.1), (2, .bool false), (27, I 1), (28, I z.1)]) (fun z => z.2.2.2) (fun z => z.1 ≤ 1 ∧ Own 1 2 eN (if z.1 = 0 then xsE else ysE) (.slice z.2.1 4 z.2.2.1) z.2.2.2) ?_ (0, y0) ?_) ⟨rfl, rfl, rfl, rfl, rfl, trivial⟩ HS.last
  · rintro ⟨k, y⟩ ⟨hk, hO⟩ ih; dsimp only at hk hO ih ⊢
    refine GE_seq ?_;refine GE_plain (.st 0 .nil) rfl ?_;refine GT_st rfl rfl rfl rfl (V_lss rfl rfl rfl) ?_;refine GT_nil ?_;refine GE_seq ?_;refine GE_cond rfl (fun q1 => ?_) (fun q1 => ?_)
    · obtain rfl : k = 0 := (by omega)
      refine GE_skip ?_;refine GE_seq ?_;refine GE_block ?_;refine GE_seq ?_;refine GE_plain (.st 0 (.st 1 .nil)) rfl ?_;refine GT_st rfl rfl rfl rfl (V_move rfl rfl) ?_;refine GT_st rfl rfl rfl rfl (V_assign rfl rfl) ?_;refine GT_nil ?_;refine GE_seq ?_;refine GE_plain (.st 0 (.st 1 (.st 2 (.st 3 (.ld 4 [] (.ld 5 [] .nil)))))) rfl ?_;refine GT_st rfl rfl rfl rfl (V_move rfl rfl) ?_;refine GT_st rfl rfl rfl rfl (V_move rfl rfl) ?_;refine GT_st rfl rfl rfl rfl (V_index rfl rfl rfl Tryz.underlying487 sz_425 (k := 0) rfl Nat.zero_lt_one rfl) ?_;refine GT_st rfl rfl rfl rfl (V_loadN (vs := [_, _, _]) rfl rfl ag_425 sz_425 rfl (show CellsAt _ _ ⟨bc, 0 * 3, none⟩ [.slice AF 1 cF, .slice AB 1 cB, I 256] from fun j v hj => by rw [add_lit, Nat.zero_mul, Nat.zero_add]; exact CellAt.old (hb.cell hj) (noM _))) ?_;refine GT_alloc rfl rfl rfl rfl rfl zc_425 (fun _ => GR_nil) (fun b11 => ?_)
      refine GT_store (vs := [_, _, _]) (l' := [_, _, _]) rfl rfl rfl rfl rfl rfl rfl sz_425 rfl rfl (Nat.le_of_ble_eq_true rfl) rfl (GR_nil) ?_;refine GT_nil ?_;refine GE_seq ?_;refine GE_seq ?_;refine GE_slots (L' := [(0, _), (1, _), (2, _), (10, _), (11, _), (27, _), (28, _)]) ⟨rfl, rfl, rfl, rfl, rfl, rfl, rfl, trivial⟩ ?_;refine GE_plain (.st 0 .nil) rfl ?_;refine GT_st rfl rfl rfl rfl (V_move rfl rfl) ?_;refine GT_nil ?_;refine GE_cond_f rfl ?_;refine GE_skip ?_;refine GE_seq ?_;refine GE_plain (.st 0 (.st 1 (.st 2 (.ld 3 [] (.ld 4 [] (.ld 5 [] (.st 6 (.st 7 (.st 8 (.st 9 (.st 10 .nil))))))))))) rfl ?_;refine GT_st rfl rfl rfl rfl (V_move rfl rfl) ?_;refine GT_st rfl rfl rfl rfl (V_loadN (vs := [_, _, _]) rfl rfl ag_425 sz_425 rfl (CellsAt.item rfl)) ?_;refine GT_st rfl rfl rfl rfl (V_move rfl rfl) ?_;refine GT_call rfl rfl rfl rfl rfl rfl rfl rfl rn_316 (fun w hw => C_step) (fun _ _ => GR_nil) (fun s _ => ?_)
      refine GT_call rfl rfl rfl rfl rfl rfl rfl rfl rn_317 (fun w hw => C_within) (fun _ _ => GR_nil) (fun bw _ => ?_)
      refine GT_callX rfl rfl rfl rfl rfl rfl rfl rfl rn_315 (fun w m => C_each (b := s.1) (b5 := s.2.1) (b3 := s.2.2) (bw := bw) (IX := y.2.2) (m.hs (HS.cons rfl (HS.cons rfl (HS.cons rfl (HS.cons rfl (HS.chunk HS.all)))))) hO hF hB) (fun _ _ => GR_nil) (fun y50 hy50 => ?_)
      refine GT_st rfl rfl rfl rfl (V_move rfl rfl) ?_;refine GT_st rfl rfl rfl rfl (V_extract rfl rfl rfl) ?_;refine GT_st rfl rfl rfl rfl (V_extract rfl rfl rfl) ?_;refine GT_st rfl rfl rfl rfl (V_assign rfl rfl) ?_;refine GT_st rfl rfl rfl rfl (V_assign rfl rfl) ?_;refine GT_nil ?_;refine GE_seq ?_;refine GE_seq ?_;refine GE_slots (L' := [(0, _), (2, _), (12, _), (13, _), (27, _), (28, _)]) ⟨rfl, rfl, rfl, rfl, rfl, rfl, trivial⟩ ?_;refine GE_plain (.st 0 (.st 1 .nil)) rfl ?_;refine GT_st rfl rfl rfl rfl (V_move rfl rfl) ?_;refine GT_st rfl rfl rfl rfl (V_isF (V_neq rfl rfl rfl) (fun q => q rfl)) ?_;refine GT_nil ?_;refine GE_cond_f rfl ?_;refine GE_skip ?_;refine GE_plain (.st 0 (.st 1 .nil)) rfl ?_;refine GT_st rfl rfl rfl rfl (V_move rfl rfl) ?_;refine GT_st rfl rfl rfl rfl (V_assign rfl rfl) ?_;refine GT_nil ?_;refine GE_inBlock ?_;refine GE_slots (L' := [(0, _), (1, _), (2, _), (27, _), (28, _)]) ⟨rfl, rfl, rfl, rfl, rfl, trivial⟩ ?_;refine GE_plain (.st 0 (.ld 1 [] .nil)) rfl ?_;refine GT_st rfl rfl rfl rfl (V_add rfl rfl rfl (wrap_i64 (by omega))) ?_;refine GT_ldv rfl rfl rfl rfl rfl (V_move rfl rfl) (GR_nil) ?_;refine GT_nil ?_
      exact GE_to (ih (1, y50) ⟨Nat.le_refl _, hy50⟩ (show 1 - 1 < 1 - 0 by decide)) ⟨rfl, rfl, rfl, rfl, rfl, trivial⟩ HS.last
    · obtain rfl : k = 1 := (by omega)
      refine GE_exit rfl ?_;refine GE_seq ?_;refine GE_slots (L' := [(1, _)]) ⟨rfl, trivial⟩ ?_;refine GE_plain (.st 0 (.st 1 (.st 2 .nil))) rfl ?_;refine GT_st rfl rfl rfl rfl (V_move rfl rfl) ?_;refine GT_st rfl rfl rfl rfl (V_assign rfl rfl) ?_;refine GT_st rfl rfl rfl rfl (V_assign rfl rfl) ?_;refine GT_nil ?_;refine GE_ret Tryz.func283 ⟨_, _, rfl, rfl, rfl⟩ (fun w hw => ?_)
      exact ⟨y, hO, rfl, hw.hs (C := cx Tryz.prog hm 0 0 _ none' fun _ _ => True) HS.last⟩
  · exact ⟨Nat.zero_le _, hy0⟩
theorem C_Apply (hF : RdL w 1 eN AF [64]) (hB : RdL w 1 eN AB [128]) (hX : RdL w 1 eN AX xsE) (hA : AX.isSome = true) :
    Con Tryz.prog 239 [.agg #[.slice AF 1 cF, .slice AB 1 cB, I 256], .slice AX 4 cX] w (fun y : Option Addr × Nat × Items => Own 1 2 eN ysE (.slice y.1 4 y.2.1) y.2.2) (fun y => .tuple #[.slice y.1 4 y.2.1, I 0]) (fun y => y.2.2) := by
  refine Ret_of (vs := [_, _]) hm none' Tryz.func239 rfl Tryz.ntmps239 rfl ?_
  dsimp only [slotsOf]
  refine GE_seq ?_;refine GE_plain (.ld 0 [] (.st 1 (.st 2 .nil))) rfl ?_;refine GT_box (z := [_, _, _]) rfl rfl rfl rfl rfl rfl rfl (fun _ => GR_nil) (fun b2 => ?_)
  refine GT_st rfl rfl rfl rfl (V_assign rfl rfl) ?_;refine GT_st rfl rfl rfl rfl (V_assign rfl rfl) ?_;refine GT_nil ?_;refine GE_seq ?_;refine GE_plain (.st 0 (.ld 1 [] (.st 2 (.ld 3 [] (.st 4 (.st 5 (.st 6 (.st 7 .nil)))))))) rfl ?_;refine GT_st rfl rfl rfl rfl (V_loadN (vs := [_, _, _]) rfl rfl ag_425 sz_425 rfl (CellsAt.item rfl)) ?_;refine GT_buildSlice (z := [_, _, _]) rfl rfl rfl rfl rfl Tryz.underlying487 zc_425 sz_425 (by decide) rfl rfl (fun _ => GR_nil) (fun b7 => ?_)
  refine GT_st rfl rfl rfl rfl (V_move rfl rfl) ?_;refine GT_call rfl rfl rfl rfl rfl rfl rfl rfl rn_283 (fun w hw => C_chain (hF.sh hw) (hB.sh hw) (BlkAt.of hw) (hX.sh hw) hA) (fun _ _ => GR_nil) (fun y hy => ?_)
  refine GT_st rfl rfl rfl rfl (V_extract rfl rfl rfl) ?_;refine GT_st rfl rfl rfl rfl (V_extract rfl rfl rfl) ?_;refine GT_st rfl rfl rfl rfl (V_assign rfl rfl) ?_;refine GT_st rfl rfl rfl rfl (V_assign rfl rfl) ?_;refine GT_nil ?_;refine GE_ret Tryz.func239 ⟨_, _, rfl, rfl, rfl⟩ (fun w hw => ?_)
  exact ⟨y, hy, rfl, hw.hs (C := cx Tryz.prog hm 0 0 _ none' fun _ _ => True) HS.last⟩
end
end Go.Proofs.YtpbflnfcgcldkaaGreatDoor.Side
/- What takes and programmes come to, in plain Lean: samples, takes, parts, places, sounds, mixes. -/
namespace Go.Proofs.YtpbflnfcgcldkaaGreatDoor.Take
open Go.Sx
def I64 (x : Int) : Prop := -9223372036854775808 ≤ x ∧ x ≤ 9223372036854775807
theorem I64.of {x : Int} (h : (Lit.int .i64 x).wf = true) : I64 x := by
  simp [Lit.wf, IntKind.min, IntKind.max, IntKind.signed, IntKind.bits] at h
  unfold I64; omega
theorem u8_of {x : Int} (h : (Lit.int .u8 x).wf = true) : 0 ≤ x ∧ x ≤ 255 := by
  simp [Lit.wf, IntKind.min, IntKind.max, IntKind.signed, IntKind.bits] at h
  omega
def betw (x lo hi : Int) : Bool := decide (lo ≤ x) && decide (x ≤ hi)
theorem betw_iff {x lo hi : Int} : betw x lo hi = true ↔ lo ≤ x ∧ x ≤ hi := by simp [betw]
/-! ### samples -/
structure Sam where
  l : Int
  r : Int
  deriving DecidableEq
instance : Inhabited Sam := ⟨⟨0, 0⟩⟩
def eSam (x : Sam) : List Value := [I x.l, I x.r]
theorem eSam_len (x : Sam) : (eSam x).length = 2 := rfl
theorem eSam_one : ∀ x, ∀ u ∈ eSam x, u.oneCell' = true := by intro x u hu; simp only [eSam, List.mem_cons, List.not_mem_nil, or_false] at hu; rcases hu with rfl | rfl <;> rfl
def Sam.wf (x : Sam) : Prop := I64 x.l ∧ I64 x.r
def Sam.ok (x : Sam) : Bool := betw x.l (-32767) 32767 && betw x.r (-32767) 32767
theorem Sam.ok_iff {x : Sam} : x.ok = true ↔ (-32767 ≤ x.l ∧ x.l ≤ 32767) ∧ (-32767 ≤ x.r ∧ x.r ≤ 32767) := by
  unfold Sam.ok; rw [Bool.and_eq_true, betw_iff, betw_iff]
def sErr (s : List Sam) : Int := if 4096 < s.length then 6 else if s.all Sam.ok = true then 0 else 2
def amt (n : Int) : Int := max n (-n)
def sad (a b : Sam) : Sam := ⟨a.l + b.l, a.r + b.r⟩
theorem getD_mem {α : Type} [Inhabited α] {l : List α} {i : Nat} (h : i < l.length) : l.getD i default ∈ l := by
  rw [List.getD, List.getElem?_eq_getElem h]; exact List.getElem_mem h
theorem all_getD {α : Type} [Inhabited α] {l : List α} {p : α → Bool} : l.all p = true ↔ ∀ i, i < l.length → p (l.getD i default) = true := by
  rw [List.all_eq_true]
  constructor
  · intro h i hi; exact h _ (getD_mem hi)
  · intro h x hx
    obtain ⟨i, hi, rfl⟩ := List.getElem_of_mem hx
    have := h i hi
    simpa [List.getD, hi] using this
theorem all_split {α : Type} [Inhabited α] {l : List α} {p : α → Bool} {i : Nat} (hi : i < l.length) (h : p (l.getD i default) = false) : l.all p = false := by
  rw [Bool.eq_false_iff]
  intro ha
  rw [all_getD.1 ha i hi] at h; cases h
/-! ### takes -/
def nmB (b : UInt8) : Bool := (decide (97 ≤ b.toNat) && decide (b.toNat ≤ 122)) || (decide (48 ≤ b.toNat) && decide (b.toNat ≤ 57))
def isNm (s : ByteArray) : Bool := decide (1 ≤ s.size) && decide (s.size ≤ 20) && s.data.toList.all nmB
structure Tk where
  name : ByteArray
  A : Option Addr
  c : Nat
  data : List Sam
instance : Inhabited Tk := ⟨⟨⟨#[]⟩, none, 0, []⟩⟩
def eTk (x : Tk) : List Value := [.string x.name, .slice x.A x.data.length x.c]
theorem eTk_len (x : Tk) : (eTk x).length = 2 := rfl
def Tk.wf (x : Tk) : Prop := x.name.size ≤ maxLen ∧ x.data.length ≤ x.c ∧ ∀ s ∈ x.data, s.wf
def Tks (w : World) (A : Option Addr) (l : List Tk) : Prop := RdL w 2 eTk A l ∧ ∀ t ∈ l, RdL w 2 eSam t.A t.data ∧ t.wf
theorem Tks.sh {w0 w : World} {A : Option Addr} {l : List Tk} {H : Items} (h : Tks w0 A l) (m : SH w0 none' H w) : Tks w A l := ⟨h.1.sh m, fun t ht => ⟨(h.2 t ht).1.sh m, (h.2 t ht).2⟩⟩
def tErr (t : Tk) : Int := if 4096 < t.data.length then 6 else if (isNm t.name && decide (t.data.length ≠ 0) && t.data.all Sam.ok) = true then 0 else 2
theorem tErr_cases (t : Tk) : tErr t = 0 ∨ tErr t = 2 ∨ tErr t = 6 := by
  unfold tErr; split
  · exact .inr (.inr rfl)
  · split
    · exact .inl rfl
    · exact .inr (.inl rfl)
theorem tErr_zero {t : Tk} : tErr t = 0 ↔ t.data.length ≤ 4096 ∧ isNm t.name = true ∧ 0 < t.data.length ∧ t.data.all Sam.ok = true := by
  unfold tErr
  split
  · constructor
    · intro h; cases h
    · intro h; omega
  · split
    · rename_i h1 h2
      rw [Bool.and_eq_true, Bool.and_eq_true, decide_eq_true_iff] at h2
      exact ⟨fun _ => ⟨by omega, h2.1.1, by omega, h2.2⟩, fun _ => rfl⟩
    · rename_i h1 h2
      rw [Bool.and_eq_true, Bool.and_eq_true, decide_eq_true_iff] at h2
      exact ⟨fun h => (by cases h), fun h => absurd ⟨⟨h.2.1, by omega⟩, h.2.2.2⟩ h2⟩
def lErr (l : List Tk) : Int :=
  if l.length < 1 ∨ 16 < l.length then 6 else if l.any (fun t => decide (tErr t = 6)) = true then 6 else if l.any (fun t => decide (tErr t ≠ 0)) = true then 2 else if (l.map Tk.name).Nodup then 0 else 12
structure TksOk (l : List Tk) : Prop where
  one : 1 ≤ l.length
  most : l.length ≤ 16
  each : ∀ t ∈ l, tErr t = 0
  apart : (l.map Tk.name).Nodup
theorem lErr_zero {l : List Tk} : lErr l = 0 ↔ TksOk l := by
  unfold lErr
  constructor
  · intro h
    split at h
    · cases h
    · rename_i h1
      split at h
      · cases h
      · split at h
        · cases h
        · rename_i h2 h3
          split at h
          · rename_i h4
            refine ⟨by omega, by omega, fun t ht => ?_, h4⟩
            rw [List.any_eq_true] at h3
            by_cases e : tErr t = 0
            · exact e
            · exact absurd ⟨t, ht, decide_eq_true e⟩ h3
          · cases h
  · intro h
    have h6 : ¬ l.any (fun t => decide (tErr t = 6)) = true := by
      rw [List.any_eq_true]; rintro ⟨t, ht, e⟩
      have := h.each t ht; rw [decide_eq_true_iff] at e; omega
    have h2 : ¬ l.any (fun t => decide (tErr t ≠ 0)) = true := by
      rw [List.any_eq_true]; rintro ⟨t, ht, e⟩
      have := h.each t ht; rw [decide_eq_true_iff] at e; omega
    have h1 := h.one
    have h3 := h.most
    rw [if_neg (by omega), if_neg h6, if_neg h2, if_pos h.apart]
/-! ### parts -/
structure Prt where
  tk : Int
  fr : Int
  to : Int
  gap : Int
  inn : Int
  out : Int
  lev : Int
  deriving DecidableEq
instance : Inhabited Prt := ⟨⟨0, 0, 0, 0, 0, 0, 0⟩⟩
def ePrt (x : Prt) : List Value := [I x.tk, I x.fr, I x.to, I x.gap, I x.inn, I x.out, I x.lev]
theorem ePrt_len (x : Prt) : (ePrt x).length = 7 := rfl
def Prt.wf (x : Prt) : Prop := (I64 x.tk ∧ I64 x.fr ∧ I64 x.to) ∧ I64 x.gap ∧ I64 x.inn ∧ I64 x.out ∧ I64 x.lev
def tkOf (l : List Tk) (x : Prt) : Tk := l.getD x.tk.toNat default
def goodP (l : List Tk) (x : Prt) : Bool :=
  decide (0 ≤ x.tk) && decide (x.tk < (l.length : Int)) && decide (0 ≤ x.fr) && decide (x.fr < x.to) && decide (x.to ≤ ((tkOf l x).data.length : Int)) && betw x.gap (-4096) 4096 && betw x.inn 0 1000 && betw x.out 0 1000 && betw x.lev 0 4000
structure PrtOk (l : List Tk) (x : Prt) : Prop where
  tk0 : 0 ≤ x.tk
  tk1 : x.tk < (l.length : Int)
  fr0 : 0 ≤ x.fr
  frto : x.fr < x.to
  to1 : x.to ≤ ((tkOf l x).data.length : Int)
  gap : -4096 ≤ x.gap ∧ x.gap ≤ 4096
  inn : 0 ≤ x.inn ∧ x.inn ≤ 1000
  out : 0 ≤ x.out ∧ x.out ≤ 1000
  lev : 0 ≤ x.lev ∧ x.lev ≤ 4000
theorem goodP_iff {l : List Tk} {x : Prt} : goodP l x = true ↔ PrtOk l x := by
  unfold goodP
  simp only [Bool.and_eq_true, betw_iff, decide_eq_true_iff]
  constructor
  · rintro ⟨⟨⟨⟨⟨⟨⟨⟨h1, h2⟩, h3⟩, h4⟩, h5⟩, h6⟩, h7⟩, h8⟩, h9⟩; exact ⟨h1, h2, h3, h4, h5, h6, h7, h8, h9⟩
  · rintro ⟨h1, h2, h3, h4, h5, h6, h7, h8, h9⟩; exact ⟨⟨⟨⟨⟨⟨⟨⟨h1, h2⟩, h3⟩, h4⟩, h5⟩, h6⟩, h7⟩, h8⟩, h9⟩
def fin (p : List Prt) : Int := (p.map fun x => x.gap + (x.to - x.fr)).sum
def pt (p : List Prt) (i : Nat) : Prt := p.getD i default
def lng (x : Prt) : Int := x.to - x.fr
def bgn (p : List Prt) (i : Nat) : Int := fin (p.take i) + (pt p i).gap
def en (p : List Prt) (i : Nat) : Int := bgn p i + lng (pt p i)
theorem take_succ {p : List Prt} {i : Nat} (hi : i < p.length) : p.take (i + 1) = p.take i ++ [pt p i] := by
  rw [List.take_add_one, List.getElem?_eq_getElem hi]; simp [pt, List.getD, hi]
theorem fin_app (p q : List Prt) : fin (p ++ q) = fin p + fin q := by unfold fin; rw [List.map_append, List.sum_append]
theorem fin_one (x : Prt) : fin [x] = x.gap + lng x := by unfold fin lng; simp
theorem fin_take {p : List Prt} {i : Nat} (hi : i < p.length) : fin (p.take (i + 1)) = en p i := by
  rw [take_succ hi, fin_app, fin_one]; unfold en bgn; omega
theorem fin_all (p : List Prt) : fin (p.take p.length) = fin p := by rw [List.take_length]
def posOk (p : List Prt) (i : Nat) : Prop := (i = 0 → 0 ≤ bgn p i) ∧ (0 < i → bgn p (i - 1) ≤ bgn p i ∧ en p (i - 1) ≤ en p i) ∧ (1 < i → en p (i - 2) ≤ bgn p i)
instance (p : List Prt) (i : Nat) : Decidable (posOk p i) := inferInstanceAs (Decidable (_ ∧ _))
def Poss (p : List Prt) : Prop := (∀ i, i < p.length → posOk p i) ∧ fin p ≤ 4096
instance (p : List Prt) : Decidable (Poss p) := inferInstanceAs (Decidable ((∀ i, i < p.length → posOk p i) ∧ fin p ≤ 4096))
def gErr (l : List Tk) (p : List Prt) : Int := if lErr l = 0 then (if 32 < p.length then 6 else if p.all (goodP l) = true then (if Poss p then 0 else 15) else 2) else lErr l
structure ProgOk (l : List Tk) (p : List Prt) : Prop where
  tks : TksOk l
  most : p.length ≤ 32
  each : ∀ i, i < p.length → PrtOk l (pt p i)
  pos : ∀ i, i < p.length → posOk p i
  fin : fin p ≤ 4096
theorem gErr_zero {l : List Tk} {p : List Prt} : gErr l p = 0 ↔ ProgOk l p := by
  unfold gErr
  constructor
  · intro h
    split at h
    · rename_i h0
      split at h
      · cases h
      · split at h
        · rename_i h1 h2
          split at h
          · rename_i h3
            exact ⟨lErr_zero.1 h0, by omega, fun i hi => goodP_iff.1 (all_getD.1 h2 i hi), h3.1, h3.2⟩
          · cases h
        · cases h
    · contradiction
  · rintro ⟨h1, h2, h3, h4, h5⟩
    rw [if_pos (lErr_zero.2 h1), if_neg (by omega), if_pos (all_getD.2 fun i hi => goodP_iff.2 (h3 i hi)), if_pos ⟨h4, h5⟩]
theorem lng_pos {l : List Tk} {x : Prt} (h : PrtOk l x) : 0 < lng x := by unfold lng; have := h.frto; omega
theorem bgn_nn {p : List Prt} {n : Nat} (h : ∀ i, i < n → posOk p i) : ∀ i, i < n → 0 ≤ bgn p i := by
  intro i
  induction i with
  | zero => intro hi; exact (h 0 hi).1 rfl
  | succ i ih => intro hi; have h1 := ih (by omega); have h2 := ((h (i + 1) hi).2.1 (by omega)).1; simp only [Nat.add_sub_cancel] at h2; omega
theorem bgn_mono {l : List Tk} {p : List Prt} (h : ProgOk l p) : ∀ i, i < p.length → 0 ≤ bgn p i := by
  intro i
  induction i with
  | zero => intro hi; exact (h.pos 0 hi).1 rfl
  | succ i ih => intro hi; have h1 := ih (by omega); have h2 := ((h.pos (i + 1) hi).2.1 (by omega)).1; simp only [Nat.add_sub_cancel] at h2; omega
theorem en_mono {l : List Tk} {p : List Prt} (h : ProgOk l p) : ∀ i j, i ≤ j → j < p.length → en p i ≤ en p j := by
  intro i j hij
  induction j with
  | zero => intro _; rw [show i = 0 by omega]; exact Int.le_refl _
  | succ j ih =>
    intro hj
    by_cases e : i = j + 1
    · rw [e]; exact Int.le_refl _
    · have h1 := ih (by omega) (by omega)
      have h2 := ((h.pos (j + 1) hj).2.1 (by omega)).2
      simp only [Nat.add_sub_cancel] at h2; omega
theorem en_fin {l : List Tk} {p : List Prt} (h : ProgOk l p) {i : Nat} (hi : i < p.length) : en p i ≤ fin p := by
  have h1 := en_mono h i (p.length - 1) (by omega) (by omega)
  have h2 := fin_take (p := p) (i := p.length - 1) (by omega)
  rw [show p.length - 1 + 1 = p.length by omega, fin_all] at h2
  omega
theorem fin_nonneg {l : List Tk} {p : List Prt} (h : ProgOk l p) : 0 ≤ fin p := by
  rcases Nat.eq_zero_or_pos p.length with h0 | h0
  · rw [List.length_eq_zero_iff.1 h0]; exact Int.le_refl _
  · have h1 := en_fin h h0
    have h2 := bgn_mono h 0 h0
    have h3 := lng_pos (h.each 0 h0)
    unfold en at h1; omega
structure Plc where
  prt : Prt
  ix : Int
  b : Int
  e : Int
instance : Inhabited Plc := ⟨⟨default, 0, 0, 0⟩⟩
def ePlc (x : Plc) : List Value := [I x.prt.tk, I x.prt.fr, I x.prt.to, I x.prt.gap, I x.prt.inn, I x.prt.out, I x.prt.lev, I x.ix, I x.b, I x.e]
theorem ePlc_len (x : Plc) : (ePlc x).length = 10 := rfl
theorem ePlc_one : ∀ x, ∀ u ∈ ePlc x, u.oneCell' = true := by intro x u hu; simp only [ePlc, List.mem_cons, List.not_mem_nil, or_false] at hu; rcases hu with rfl | rfl | rfl | rfl | rfl | rfl | rfl | rfl | rfl | rfl <;> rfl
def plc (p : List Prt) (i : Nat) : Plc := ⟨pt p i, i, bgn p i, en p i⟩
def plcs (p : List Prt) (n : Nat) : List Plc := (List.range n).map (plc p)
theorem ePlc_plc (p : List Prt) (i : Nat) : ePlc (plc p i) = [I (pt p i).tk, I (pt p i).fr, I (pt p i).to, I (pt p i).gap, I (pt p i).inn, I (pt p i).out, I (pt p i).lev, I i, I (bgn p i), I (en p i)] := rfl
theorem plcs_len (p : List Prt) (n : Nat) : (plcs p n).length = n := by simp [plcs]
theorem plcs_succ (p : List Prt) (n : Nat) : plcs p (n + 1) = plcs p n ++ [plc p n] := by simp [plcs, List.range_succ]
theorem plcs_get {p : List Prt} {n i : Nat} (hi : i < n) : (plcs p n).getD i default = plc p i := by simp [plcs, List.getD, hi]
/-! ### sounds -/
def up (x : Prt) (k : Int) : Int := min k x.inn + 1
def dn (x : Prt) (k : Int) : Int := min (lng x - k - 1) x.out + 1
def gnN (x : Prt) (k lev : Int) : Int := lev * up x k * dn x k
def gnD (x : Prt) : Int := 1000 * (x.inn + 1) * (x.out + 1)
def ld (s : Int) (x : Prt) (k lev : Int) : Int := (s * gnN x k lev).tdiv (gnD x)
def smp (l : List Tk) (x : Prt) (k : Int) : Sam := (tkOf l x).data.getD (x.fr + k).toNat default
def snd (l : List Tk) (x : Prt) (k lev : Int) : Sam := ⟨ld (smp l x k).l x k lev, ld (smp l x k).r x k lev⟩
theorem up_bd {l : List Tk} {x : Prt} (h : PrtOk l x) {k : Int} (h0 : 0 ≤ k) : 1 ≤ up x k ∧ up x k ≤ x.inn + 1 := by
  unfold up; have := h.inn; omega
theorem dn_bd {l : List Tk} {x : Prt} (h : PrtOk l x) {k : Int} (h1 : k < lng x) : 1 ≤ dn x k ∧ dn x k ≤ x.out + 1 := by
  unfold dn; have := h.out; omega
theorem mul_bd {a b A B : Int} (h0 : 0 ≤ a) (h1 : a ≤ A) (h2 : 0 ≤ b) (h3 : b ≤ B) : 0 ≤ a * b ∧ a * b ≤ A * B := ⟨Int.mul_nonneg h0 h2, Int.mul_le_mul h1 h3 h2 (by omega)⟩
theorem gnD_pos {l : List Tk} {x : Prt} (h : PrtOk l x) : 1000 ≤ gnD x ∧ gnD x ≤ 1002001000 := by
  unfold gnD
  have h1 := h.inn; have h2 := h.out
  have := mul_bd (a := x.inn + 1 - 1) (b := x.out + 1 - 1) (A := 1000) (B := 1000) (by omega) (by omega) (by omega) (by omega)
  have e : 1000 * (x.inn + 1) * (x.out + 1) = 1000 * ((x.inn + 1 - 1) * (x.out + 1 - 1)) + 1000 * x.inn + 1000 * x.out + 1000 := by
    rw [show x.inn + 1 - 1 = x.inn by omega, show x.out + 1 - 1 = x.out by omega, Int.mul_assoc, Int.add_mul, Int.mul_add]; simp only [Int.mul_add, Int.one_mul, Int.mul_one]; omega
  omega
theorem gnN_bd {l : List Tk} {x : Prt} (h : PrtOk l x) {k lev : Int} (h0 : 0 ≤ k) (h1 : k < lng x) (h2 : 0 ≤ lev) : 0 ≤ gnN x k lev ∧ 1000 * gnN x k lev ≤ lev * gnD x := by
  have hu := up_bd h h0
  have hd := dn_bd h h1
  have a1 := mul_bd (a := up x k) (b := dn x k) (by omega) hu.2 (by omega) hd.2
  have a2 := mul_bd (a := lev) (b := up x k * dn x k) h2 (Int.le_refl _) a1.1 a1.2
  unfold gnN gnD
  rw [Int.mul_assoc lev]
  refine ⟨a2.1, ?_⟩
  rw [Int.mul_assoc 1000, Int.mul_left_comm lev 1000]
  exact Int.mul_le_mul_of_nonneg_left a2.2 (by omega)
theorem tdiv_bd {a d c : Int} (hd : 0 < d) (hc : 0 ≤ c) (h : 1000 * amt a ≤ c * d) : 1000 * amt (a.tdiv d) ≤ c := by
  rcases Int.le_total 0 a with h0 | h0
  · have e : amt a = a := by unfold amt; omega
    have q0 : 0 ≤ a.tdiv d := Int.tdiv_nonneg h0 (by omega)
    have e2 : amt (a.tdiv d) = a.tdiv d := by unfold amt; omega
    rw [e] at h; rw [e2]
    have h1 : a.tdiv d * d ≤ a := by rw [Int.tdiv_eq_ediv_of_nonneg h0]; exact Int.ediv_mul_le a (by omega)
    have h2 : (1000 * a.tdiv d) * d ≤ c * d := by rw [Int.mul_assoc]; omega
    exact Int.le_of_mul_le_mul_right h2 hd
  · have e : amt a = -a := by unfold amt; omega
    have hn : a.tdiv d = -((-a).tdiv d) := by rw [Int.neg_tdiv, Int.neg_neg]
    have q0 : 0 ≤ (-a).tdiv d := Int.tdiv_nonneg (by omega) (by omega)
    have e2 : amt (a.tdiv d) = (-a).tdiv d := by unfold amt; omega
    rw [e] at h; rw [e2]
    have h1 : (-a).tdiv d * d ≤ -a := by rw [Int.tdiv_eq_ediv_of_nonneg (by omega)]; exact Int.ediv_mul_le (-a) (by omega)
    have h2 : (1000 * (-a).tdiv d) * d ≤ c * d := by rw [Int.mul_assoc]; omega
    exact Int.le_of_mul_le_mul_right h2 hd
theorem amt_mul {a b : Int} (hb : 0 ≤ b) : amt (a * b) = amt a * b := by
  unfold amt
  rcases Int.le_total 0 a with h | h
  · have := Int.mul_nonneg h hb
    rw [Int.max_eq_left (by omega), Int.max_eq_left (by omega)]
  · have h1 : a * b ≤ 0 := by have := Int.mul_nonneg (a := -a) (by omega) hb; rw [Int.neg_mul] at this; omega
    rw [Int.max_eq_right (by omega), Int.max_eq_right (by omega), Int.neg_mul]
theorem amt_nonneg (a : Int) : 0 ≤ amt a := by unfold amt; omega
theorem ld_bd {l : List Tk} {x : Prt} (h : PrtOk l x) {s k lev : Int} (h0 : 0 ≤ k) (h1 : k < lng x) (h2 : 0 ≤ lev) : 1000 * amt (ld s x k lev) ≤ amt s * lev := by
  have hg := gnN_bd h h0 h1 h2
  have hd := (gnD_pos h).1
  unfold ld
  refine tdiv_bd (by omega) (Int.mul_nonneg (amt_nonneg s) h2) ?_
  rw [amt_mul hg.1, ← Int.mul_assoc, Int.mul_comm 1000, Int.mul_assoc, Int.mul_assoc]
  exact Int.mul_le_mul_of_nonneg_left hg.2 (amt_nonneg s)
/-! ### mixes -/
def mixN (p : List Prt) (v : Nat → Int → Sam) : Nat → Int → Sam
  | 0, _ => ⟨0, 0⟩
  | n + 1, t => if bgn p n ≤ t ∧ t < en p n then sad (mixN p v n t) (v n (t - bgn p n)) else mixN p v n t
def mix (p : List Prt) (v : Nat → Int → Sam) : List Sam := (List.range (fin p).toNat).map fun (t : Nat) => mixN p v p.length t
def vR (l : List Tk) (p : List Prt) (i : Nat) (k : Int) : Sam := snd l (pt p i) k (pt p i).lev
def rend (l : List Tk) (p : List Prt) : List Sam := mix p (vR l p)
def rErr (l : List Tk) (p : List Prt) : Int := if gErr l p = 0 then (if sErr (rend l p) = 0 then 0 else 4) else gErr l p
def rendL (l : List Tk) (p : List Prt) : List Sam := if rErr l p = 0 then rend l p else []
theorem mix_len (p : List Prt) (v : Nat → Int → Sam) : (mix p v).length = (fin p).toNat := by simp [mix]
def Sam.bd (s : Sam) (B : Int) : Prop := (-B ≤ s.l ∧ s.l ≤ B) ∧ (-B ≤ s.r ∧ s.r ≤ B)
theorem mixN_bd {p : List Prt} {v : Nat → Int → Sam} {B : Int} (hB : 0 ≤ B) : ∀ n t, n ≤ p.length → (∀ i k, i < p.length → 0 ≤ k → k < lng (pt p i) → (v i k).bd B) → (mixN p v n t).bd (n * B) := by
  intro n t hn hv
  induction n with
  | zero => exact ⟨⟨by simp [mixN], by simp [mixN]⟩, ⟨by simp [mixN], by simp [mixN]⟩⟩
  | succ n ih =>
    have hi := ih (by omega)
    have e : ((n + 1 : Nat) : Int) * B = n * B + B := by rw [Int.natCast_succ, Int.add_mul, Int.one_mul]
    rw [e]
    unfold mixN
    unfold Sam.bd at hi ⊢
    split
    · rename_i h
      have hb := hv n (t - bgn p n) (by omega) (by omega) (by have := h.2; unfold en at this; omega)
      unfold Sam.bd at hb
      simp only [sad]
      omega
    · omega
theorem Sam.bd.mono {s : Sam} {B C : Int} (h : s.bd B) (hb : B ≤ C) : s.bd C := by unfold Sam.bd at h ⊢; omega
def mixS (p : List Prt) (v : Nat → Int → Sam) (i : Nat) (t : Int) : List Sam := (List.range (fin p).toNat).map fun (s : Nat) => if bgn p i ≤ s ∧ (s : Int) < t then mixN p v (i + 1) s else mixN p v i s
def mixP (p : List Prt) (v : Nat → Int → Sam) (i : Nat) : List Sam := (List.range (fin p).toNat).map fun (s : Nat) => mixN p v i s
theorem mixS_len (p : List Prt) (v : Nat → Int → Sam) (i : Nat) (t : Int) : (mixS p v i t).length = (fin p).toNat := by simp [mixS]
theorem mixP_zero (p : List Prt) (v : Nat → Int → Sam) : mixP p v 0 = List.replicate (fin p).toNat ⟨0, 0⟩ := by
  unfold mixP
  rw [List.eq_replicate_iff]
  refine ⟨by simp, fun b hb => ?_⟩
  obtain ⟨i, _, rfl⟩ := List.mem_map.1 hb
  rfl
theorem mixS_begin (p : List Prt) (v : Nat → Int → Sam) (i : Nat) : mixS p v i (bgn p i) = mixP p v i := by
  unfold mixS mixP
  apply List.map_congr_left
  intro s _
  rw [if_neg (by omega)]
theorem mixS_end (p : List Prt) (v : Nat → Int → Sam) (i : Nat) : mixS p v i (en p i) = mixP p v (i + 1) := by
  unfold mixS mixP
  apply List.map_congr_left
  intro s _
  by_cases h : bgn p i ≤ s ∧ (s : Int) < en p i
  · rw [if_pos h]
  · rw [if_neg h]; conv => rhs; rw [mixN, if_neg h]
theorem mixS_at {p : List Prt} {v : Nat → Int → Sam} {i t : Nat} (h : t < (fin p).toNat) : (mixS p v i t).getD t default = mixN p v i t := by
  simp [mixS, List.getD, h]
theorem mixS_set {p : List Prt} {v : Nat → Int → Sam} {i t : Nat} (h : t < (fin p).toNat) (h1 : bgn p i ≤ t) (h2 : (t : Int) < en p i) : (mixS p v i t).set t (sad (mixN p v i t) (v i (t - bgn p i))) = mixS p v i ((t : Int) + 1) := by
  apply List.ext_getElem (by simp [mixS])
  intro q h3 h4
  rw [List.getElem_set]
  simp only [mixS, List.getElem_map, List.getElem_range]
  by_cases e : t = q
  · subst e
    rw [if_pos rfl, if_pos ⟨h1, by omega⟩]
    conv => rhs; rw [mixN, if_pos ⟨h1, h2⟩]
  · rw [if_neg e]
    by_cases hc : bgn p i ≤ (q : Int) ∧ (q : Int) < t
    · rw [if_pos hc, if_pos ⟨hc.1, by omega⟩]
    · rw [if_neg hc, if_neg (by omega)]
theorem mixP_all (p : List Prt) (v : Nat → Int → Sam) : mixP p v p.length = mix p v := rfl
theorem smp_ok {l : List Tk} {x : Prt} (hl : TksOk l) (h : PrtOk l x) {k : Int} (h0 : 0 ≤ k) (h1 : k < lng x) : (x.fr + k).toNat < (tkOf l x).data.length ∧ x.tk.toNat < l.length ∧ (-32767 ≤ (smp l x k).l ∧ (smp l x k).l ≤ 32767) ∧ (-32767 ≤ (smp l x k).r ∧ (smp l x k).r ≤ 32767) := by
  have a := h.tk0; have b := h.tk1; have c := h.fr0; have d := h.frto; have e := h.to1
  unfold lng at h1
  have h2 : (x.fr + k).toNat < (tkOf l x).data.length := by omega
  have h3 : x.tk.toNat < l.length := by omega
  have h4 := (tErr_zero.1 (hl.each _ (getD_mem h3))).2.2.2
  have h5 := Sam.ok_iff.1 (all_getD.1 h4 _ h2)
  exact ⟨h2, h3, h5⟩
theorem snd_bd {l : List Tk} {x : Prt} (hl : TksOk l) (h : PrtOk l x) {k lev : Int} (h0 : 0 ≤ k) (h1 : k < lng x) (h2 : 0 ≤ lev) (h3 : lev ≤ 16000) : (snd l x k lev).bd 1000000 := by
  obtain ⟨_, _, s1, s2⟩ := smp_ok hl h h0 h1
  have b1 := ld_bd h (s := (smp l x k).l) h0 h1 h2
  have b2 := ld_bd h (s := (smp l x k).r) h0 h1 h2
  have c1 := mul_bd (amt_nonneg (smp l x k).l) (A := 32767) (by unfold amt; omega) h2 h3
  have c2 := mul_bd (amt_nonneg (smp l x k).r) (A := 32767) (by unfold amt; omega) h2 h3
  have d1 : 1000 * amt (ld (smp l x k).l x k lev) ≤ 524272000 := by omega
  have d2 : 1000 * amt (ld (smp l x k).r x k lev) ≤ 524272000 := by omega
  unfold amt at d1 d2
  unfold Sam.bd snd
  dsimp only
  omega
end Go.Proofs.YtpbflnfcgcldkaaGreatDoor.Take
/- Silences, in plain Lean; names that are apart. -/
namespace Go.Proofs.YtpbflnfcgcldkaaGreatDoor.Take
open Go.Sx
/-! ### silences -/
/-! ### names that are apart -/
instance decMem (k : ByteArray) (ks : List ByteArray) : Decidable (k ∈ ks) := decidable_of_iff ((ks.any fun x => decide (x = k)) = true) (by simp)
def kad (ks : List ByteArray) (k : ByteArray) : List ByteArray := if k ∈ ks then ks else ks ++ [k]
def uniq : List ByteArray → List ByteArray := List.foldl kad []
theorem uniq_snoc (l : List ByteArray) (k : ByteArray) : uniq (l ++ [k]) = kad (uniq l) k := by unfold uniq; rw [List.foldl_append]; rfl
theorem kad_mem {ks : List ByteArray} {k x : ByteArray} : x ∈ kad ks k ↔ x ∈ ks ∨ x = k := by
  unfold kad
  split
  · rename_i h; constructor
    · exact .inl
    · rintro (h2 | rfl); exact h2; exact h
  · simp
theorem uniq_rev (P : List ByteArray → Prop) (h0 : P []) (h1 : ∀ l k, P l → P (l ++ [k])) : ∀ l, P l := by
  intro l
  have : ∀ n, ∀ l : List ByteArray, l.length = n → P l := by
    intro n
    induction n with
    | zero => intro l hl; rw [List.length_eq_zero_iff.1 hl]; exact h0
    | succ n ih =>
      intro l hl
      have hne : l ≠ [] := by intro e; rw [e] at hl; cases hl
      rw [← List.dropLast_concat_getLast hne]
      exact h1 _ _ (ih _ (by simp [hl]))
  exact this _ l rfl
theorem uniq_mem (l : List ByteArray) : ∀ x, x ∈ uniq l ↔ x ∈ l := by
  refine uniq_rev (fun l => ∀ x, x ∈ uniq l ↔ x ∈ l) (by simp [uniq]) ?_ l
  intro l k ih x
  rw [uniq_snoc, kad_mem, ih]; simp
theorem uniq_len (l : List ByteArray) : (uniq l).length ≤ l.length ∧ ((uniq l).length = l.length ↔ l.Nodup) := by
  refine uniq_rev (fun l => (uniq l).length ≤ l.length ∧ ((uniq l).length = l.length ↔ l.Nodup)) (by simp [uniq]) ?_ l
  intro l k ⟨ih1, ih2⟩
  rw [uniq_snoc]
  have hm := uniq_mem l k
  unfold kad
  rw [List.nodup_append]
  split
  · rename_i h
    refine ⟨by simp; omega, ⟨fun e => ?_, fun e => ?_⟩⟩
    · simp at e; omega
    · exact absurd rfl (e.2.2 k (hm.1 h) k (List.mem_singleton.2 rfl))
  · rename_i h
    refine ⟨by simp; omega, ⟨fun e => ?_, fun e => ?_⟩⟩
    · simp at e
      refine ⟨ih2.1 e, by simp, fun a ha b hb => ?_⟩
      rw [List.mem_singleton] at hb; subst hb; rintro rfl; exact h (hm.2 ha)
    · simp; exact ih2.2 e.1
theorem mput_keys (ks : List KV) (k : ByteArray) (z : Int) : (mput ks k z).map (·.1) = kad (ks.map (·.1)) k := by
  unfold mput kad
  cases h : midx ks k with
  | none => rw [if_neg (midx_none.1 h)]; simp
  | some i =>
    have hi := midx_some h
    rw [if_pos]
    · apply List.ext_getElem (by simp)
      intro j h1 h2
      simp only [List.getElem_map, List.getElem_set]
      split
      · rename_i e; subst e; rw [← hi.2]; simp [List.getD, hi.1]
      · rfl
    · rw [List.mem_map]
      exact ⟨ks.getD i default, getD_mem hi.1, hi.2⟩
theorem mget_bd {ks : List KV} {k : ByteArray} {B : Int} (h : ∀ e ∈ ks, 0 ≤ e.2 ∧ e.2 ≤ B) (hB : 0 ≤ B) : 0 ≤ mget ks k ∧ mget ks k ≤ B := by
  unfold mget
  cases hq : midx ks k with
  | none => exact ⟨Int.le_refl _, hB⟩
  | some i => exact h _ (getD_mem (midx_some hq).1)
theorem mput_bd {ks : List KV} {k : ByteArray} {z B : Int} (h : ∀ e ∈ ks, 0 ≤ e.2 ∧ e.2 ≤ B) (hz : 0 ≤ z ∧ z ≤ B) : ∀ e ∈ mput ks k z, 0 ≤ e.2 ∧ e.2 ≤ B := by
  unfold mput
  intro e he
  cases hq : midx ks k with
  | none =>
    rw [hq] at he
    rcases List.mem_append.1 he with he | he
    · exact h e he
    · rw [List.mem_singleton.1 he]; exact hz
  | some i =>
    rw [hq] at he
    rcases List.mem_or_eq_of_mem_set he with he | rfl
    · exact h e he
    · exact hz
end Go.Proofs.YtpbflnfcgcldkaaGreatDoor.Take
