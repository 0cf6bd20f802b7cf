/- Texts of this proof, one behind the other: Tg3, Tg4, Tg5, Ua2, LiS. -/
import Derived.Test.YtncleikbggjmjaaGreatDoorMt0
import Derived.Test.YtncleikbggjmjaaGreatDoorMt17
import Derived.Test.YtncleikbggjmjaaGreatDoorMt13
import Derived.Test.YtncleikbggjmjaaGreatDoorMt16
import Derived.Test.YtncleikbggjmjaaGreatDoorMt9
/- The rules of the example's groove, walked. -/
namespace Go.Proofs.YtncleikbggjmjaaGreatDoor.Side
open Go.Sx Go.Proofs Go.RowKit
abbrev bdE (a b : Int) : Prop := (-4194304 ≤ a ∧ a ≤ 4194304) ∧ -4194304 ≤ b ∧ b ≤ 4194304
section
variable {w : World} {A : Option Addr} {c g q q0 q2 bt : Nat} {va vb : Value} {a b a0 b0 a2 b2 r s bd : Int} {vh : Value}
theorem C_step0 : Con0 Tryz.prog 163 [.agg #[.pointer none, vh, va]] w (I 0) := by
  refine Ret_of (vs := [_]) hm none' Tryz.func163 rfl Tryz.ntmps163 rfl ?_
  dsimp only [slotsOf]
  refine Zp 2 [0] rfl ?_;refine Zx [_, _, _] rfl rfl fun b1 => ?_;refine Zv rfl ?_;refine Zz ?_;refine Zp 3 [] rfl ?_;refine Zg rfl fo_284_0 rfl ag_282 rfl ?_;refine GT_S rfl (V_eqlNilPtr rfl rfl rfl Tryz.underlying282) ?_;refine GT_nil ?_;refine GE_cond_t rfl ?_;refine Zq [] 1 [] rfl rfl ?_;refine Zv rfl ?_;refine GT_nil ?_;refine GE_ret Tryz.func163 rfl (fun w hw => ⟨?_, hw.nil⟩)
  rfl
set_option maxRecDepth 20000 in
theorem C_step2 (h0 : PtAt w g q0 a0 b0) (h : PtAt w g q a b) (hb0 : bdE a0 b0) (hb : bdE a b) : Con0 Tryz.prog 163 [.agg #[ptr g q0, ptr g q, va]] w (I (max (amt2 (a - a0)) (amt2 (b - b0)))) := by
  refine Ret_of (vs := [_]) hm none' Tryz.func163 rfl Tryz.ntmps163 rfl ?_
  dsimp only [slotsOf]
  refine Zp 2 [0] rfl ?_;refine Zx [_, _, _] rfl rfl fun b1 => ?_;refine Zv rfl ?_;refine Zz ?_;refine Zp 3 [] rfl ?_;refine Zg rfl fo_284_0 rfl ag_282 rfl ?_;refine GT_S rfl (V_eqlNilPtr rfl rfl rfl Tryz.underlying282) ?_;refine GT_nil ?_;refine GE_cond_f rfl ?_;refine GE_skip ?_;refine GE_seq ?_;refine Zs [1] rfl ?_;refine GE_drawn (.st 0 (.st 1 (.st 2 (.st 3 (.st 4 (.st 5 (.st 6 (.st 7 (.st 8 (.st 9 (.st 10 (.st 12 (.st 13 (.st 14 (.st 15 (.st 16 (.st 17 (.st 18 (.st 19 (.st 20 (.st 21 (.st 22 (.ld 11 [12, 13, 14, 15, 16, 17, 18, 19, 20, 21, 22] (.ld 23 [] (.ld 24 [] (.ld 25 [] (.st 26 .nil))))))))))))))))))))))))))) [11, 23, 24, 25] (by decide +kernel) ?_;refine Zg rfl fo_284_1 rfl ag_282 rfl ?_;refine Zv rfl ?_;refine Zf rfl fo_115_0 ?_;refine ZL rfl ag_2 (CellAt.old h.h0 (noM _)) ?_;refine Zg rfl fo_284_0 rfl ag_282 rfl ?_;refine Zv rfl ?_;refine Zf rfl fo_115_0 ?_;refine ZL rfl ag_2 (CellAt.old h0.h0 (noM _)) ?_;refine Za rfl (by omega) ?_;refine Zg rfl fo_284_1 rfl ag_282 rfl ?_;refine Zv rfl ?_;refine Zf rfl fo_115_1 ?_;refine ZL rfl ag_2 (CellAt.old h.h1 (noM _)) ?_;refine Zg rfl fo_284_0 rfl ag_282 rfl ?_;refine Zv rfl ?_;refine Zf rfl fo_115_1 ?_;refine ZL rfl ag_2 (CellAt.old h0.h1 (noM _)) ?_;refine Za rfl (by omega) ?_;refine Zc rfl rn_172 (fun w hw => C_gamount (by omega)) (Rf rfl fo_284_1 rfl (Rl rfl ag_282 rfl rfl (Rv rfl rfl (Rf rfl fo_115_1 rfl (GR_S rfl rfl (V_load rfl rfl ag_2 (CellAt.old h.h1 (noM _))) (Rf rfl fo_284_0 rfl (Rl rfl ag_282 rfl rfl (Rv rfl rfl (Rf rfl fo_115_1 rfl (GR_S rfl rfl (V_load rfl rfl ag_2 (CellAt.old h0.h1 (noM _))) (GR_S rfl rfl (V_sub rfl rfl rfl (wrap_i64 (by omega))) GR_nil))))))))))) ?_;refine Zc rfl rn_172 (fun w hw => C_gamount (by omega)) GR_nil ?_;refine GT_buildSlice (z := [_, _]) rfl rfl rfl rfl rfl Tryz.underlying43 zc_2 sz_2 (by decide) rfl rfl (fun _ => GR_nil) (fun b30 => ?_);refine Zc rfl rn_171 (fun w hw => C_gmost (x := amt2 (a - a0)) (y := amt2 (b - b0)) (RdL.own' hw eN_len)) GR_nil ?_;refine Zv rfl ?_;refine GT_nil ?_;refine GE_ret Tryz.func163 rfl (fun w hw => ⟨?_, hw.nil⟩)
  rfl
theorem C_bend0 : Con0 Tryz.prog 164 [.agg #[.pointer none, vh, va]] w (I 0) := by
  refine Ret_of (vs := [_]) hm none' Tryz.func164 rfl Tryz.ntmps164 rfl ?_
  dsimp only [slotsOf]
  refine Zp 2 [0] rfl ?_;refine Zx [_, _, _] rfl rfl fun b1 => ?_;refine Zv rfl ?_;refine Zz ?_;refine Zp 8 [] rfl ?_;refine Zg rfl fo_284_0 rfl ag_282 rfl ?_;refine GT_S rfl (V_eqlNilPtr rfl rfl rfl Tryz.underlying282) ?_;refine Zr 5 rfl ?_;refine GT_nil ?_;refine GE_cond_t rfl ?_;refine Zq [] 1 [] rfl rfl ?_;refine Zv rfl ?_;refine GT_nil ?_;refine GE_ret Tryz.func164 rfl (fun w hw => ⟨?_, hw.nil⟩)
  rfl
theorem C_bendN : Con0 Tryz.prog 164 [.agg #[ptr g q0, vh, .pointer none]] w (I 0) := by
  refine Ret_of (vs := [_]) hm none' Tryz.func164 rfl Tryz.ntmps164 rfl ?_
  dsimp only [slotsOf]
  refine Zp 2 [0] rfl ?_;refine Zx [_, _, _] rfl rfl fun b1 => ?_;refine Zv rfl ?_;refine Zz ?_;refine Zp 8 [] rfl ?_;refine Zg rfl fo_284_0 rfl ag_282 rfl ?_;refine GT_S rfl (V_eqlNilPtr rfl rfl rfl Tryz.underlying282) ?_;refine Zv rfl ?_;refine Zg rfl fo_284_2 rfl ag_282 rfl ?_;refine GT_S rfl (V_eqlNilPtr rfl rfl rfl Tryz.underlying282) ?_;refine Zv rfl ?_;refine GT_nil ?_;refine GE_cond_t rfl ?_;refine Zq [] 1 [] rfl rfl ?_;refine Zv rfl ?_;refine GT_nil ?_;refine GE_ret Tryz.func164 rfl (fun w hw => ⟨?_, hw.nil⟩)
  rfl
set_option maxRecDepth 20000 in
theorem C_bend2 (h0 : PtAt w g q0 a0 b0) (h : PtAt w g q a b) (h2 : PtAt w g q2 a2 b2) (hb0 : bdE a0 b0) (hb : bdE a b) (hb2 : bdE a2 b2) : Con0 Tryz.prog 164 [.agg #[ptr g q0, ptr g q, ptr g q2]] w (I (max (amt2 (a0 + a2 - 2 * a)) (amt2 (b0 + b2 - 2 * b)))) := by
  refine Ret_of (vs := [_]) hm none' Tryz.func164 rfl Tryz.ntmps164 rfl ?_
  dsimp only [slotsOf]
  refine Zp 2 [0] rfl ?_;refine Zx [_, _, _] rfl rfl fun b1 => ?_;refine Zv rfl ?_;refine Zz ?_;refine Zp 8 [] rfl ?_;refine Zg rfl fo_284_0 rfl ag_282 rfl ?_;refine GT_S rfl (V_eqlNilPtr rfl rfl rfl Tryz.underlying282) ?_;refine Zv rfl ?_;refine Zg rfl fo_284_2 rfl ag_282 rfl ?_;refine GT_S rfl (V_eqlNilPtr rfl rfl rfl Tryz.underlying282) ?_;refine Zv rfl ?_;refine GT_nil ?_;refine GE_cond_f rfl ?_;refine GE_skip ?_;refine GE_seq ?_;refine Zs [1] rfl ?_;refine GE_drawn (.st 0 (.st 1 (.st 2 (.st 3 (.st 4 (.st 5 (.st 6 (.st 7 (.st 8 (.st 9 (.st 10 (.st 11 (.st 12 (.st 13 (.st 14 (.st 15 (.st 16 (.st 17 (.st 19 (.st 20 (.st 21 (.st 22 (.st 23 (.st 24 (.st 25 (.st 26 (.st 27 (.st 28 (.st 29 (.st 30 (.st 31 (.st 32 (.st 33 (.st 34 (.st 35 (.st 36 (.ld 18 [19, 20, 21, 22, 23, 24, 25, 26, 27, 28, 29, 30, 31, 32, 33, 34, 35, 36] (.ld 37 [] (.ld 38 [] (.ld 39 [] (.st 40 .nil))))))))))))))))))))))))))))))))))))))))) [18, 37, 38, 39] (by decide +kernel) ?_;refine Zg rfl fo_284_0 rfl ag_282 rfl ?_;refine Zv rfl ?_;refine Zf rfl fo_115_0 ?_;refine ZL rfl ag_2 (CellAt.old h0.h0 (noM _)) ?_;refine Zg rfl fo_284_2 rfl ag_282 rfl ?_;refine Zv rfl ?_;refine Zf rfl fo_115_0 ?_;refine ZL rfl ag_2 (CellAt.old h2.h0 (noM _)) ?_;refine Za rfl (by omega) ?_;refine Zg rfl fo_284_1 rfl ag_282 rfl ?_;refine Zv rfl ?_;refine Zf rfl fo_115_0 ?_;refine ZL rfl ag_2 (CellAt.old h.h0 (noM _)) ?_;refine Za rfl (by omega) ?_;refine Za rfl (by omega) ?_;refine Zg rfl fo_284_0 rfl ag_282 rfl ?_;refine Zv rfl ?_;refine Zf rfl fo_115_1 ?_;refine ZL rfl ag_2 (CellAt.old h0.h1 (noM _)) ?_;refine Zg rfl fo_284_2 rfl ag_282 rfl ?_;refine Zv rfl ?_;refine Zf rfl fo_115_1 ?_;refine ZL rfl ag_2 (CellAt.old h2.h1 (noM _)) ?_;refine Za rfl (by omega) ?_;refine Zg rfl fo_284_1 rfl ag_282 rfl ?_;refine Zv rfl ?_;refine Zf rfl fo_115_1 ?_;refine ZL rfl ag_2 (CellAt.old h.h1 (noM _)) ?_;refine Za rfl (by omega) ?_;refine Za rfl (by omega) ?_;refine Zc rfl rn_172 (fun w hw => C_gamount (by omega)) (Rf rfl fo_284_0 rfl (Rl rfl ag_282 rfl rfl (Rv rfl rfl (Rf rfl fo_115_1 rfl (GR_S rfl rfl (V_load rfl rfl ag_2 (CellAt.old h0.h1 (noM _))) (Rf rfl fo_284_2 rfl (Rl rfl ag_282 rfl rfl (Rv rfl rfl (Rf rfl fo_115_1 rfl (GR_S rfl rfl (V_load rfl rfl ag_2 (CellAt.old h2.h1 (noM _))) (GR_S rfl rfl (V_add rfl rfl rfl (wrap_i64 (by omega))) (Rf rfl fo_284_1 rfl (Rl rfl ag_282 rfl rfl (Rv rfl rfl (Rf rfl fo_115_1 rfl (GR_S rfl rfl (V_load rfl rfl ag_2 (CellAt.old h.h1 (noM _))) (GR_S rfl rfl (V_mul rfl rfl rfl (wrap_i64 (by omega))) (GR_S rfl rfl (V_sub rfl rfl rfl (wrap_i64 (by omega))) GR_nil)))))))))))))))))) ?_;refine Zc rfl rn_172 (fun w hw => C_gamount (by omega)) GR_nil ?_;refine GT_buildSlice (z := [_, _]) rfl rfl rfl rfl rfl Tryz.underlying43 zc_2 sz_2 (by decide) rfl rfl (fun _ => GR_nil) (fun b49 => ?_);refine Zc rfl rn_171 (fun w hw => C_gmost (x := amt2 (a0 + a2 - 2 * a)) (y := amt2 (b0 + b2 - 2 * b)) (RdL.own' hw eN_len)) GR_nil ?_;refine Zv rfl ?_;refine GT_nil ?_;refine GE_ret Tryz.func164 rfl (fun w hw => ⟨?_, hw.nil⟩)
  rfl
theorem C_thin (h : PtAt w g q a b) (hbd : bdE a b) (hb : BlkAt w bt (trkC A c r 1000) 277) (hx : ¬ b - a < 200) : Con0 Tryz.prog 149 [ptr bt 0, .agg #[vb, ptr g q, va]] w (.bool false) := by
  refine Ret_of (vs := [_, _]) hm none' Tryz.func149 rfl Tryz.ntmps149 rfl ?_
  dsimp only [slotsOf]
  refine Zp 2 [0] rfl ?_;refine Zx [_, _, _] rfl rfl fun b3 => ?_;refine Zv rfl ?_;refine Zz ?_;refine GE_drawn (.st 0 (.st 2 (.st 3 (.st 4 (.st 5 (.st 6 (.ld 1 [2, 3, 4, 5, 6] (.st 7 (.st 8 .nil))))))))) [1] (by decide +kernel) ?_;refine ZN [_, _, _] rfl ag_284 sz_284 rfl rfl ?_;refine Zr 2 rfl ?_;refine Zf rfl fo_277_0 ?_;refine Zf rfl fo_195_2 ?_;refine ZL rfl ag_2 (CellAt.old (hb.cell rfl) (noM _)) ?_;refine Zc rfl rn_162 (fun w hw => C_nwidth (h.sh hw) hbd) (Rv rfl rfl (Rv rfl rfl (Rf rfl fo_277_0 rfl (Rf rfl fo_195_2 rfl (GR_S rfl rfl (V_load rfl rfl ag_2 (CellAt.old (hb.cell rfl) (noM _))) GR_nil))))) ?_;refine GT_S rfl (V_lss rfl rfl rfl) ?_;refine Zv rfl ?_;refine GT_nil ?_;refine GE_ret Tryz.func149 rfl (fun w hw => ⟨?_, hw.nil⟩)
  refine congrArg Value.bool ?_;exact decide_eq_false hx
theorem C_wide (h : PtAt w g q a b) (hbd : bdE a b) (hb : BlkAt w bt (trkC A c r 1000) 277) (hx : ¬ 2000 < b - a) : Con0 Tryz.prog 150 [ptr bt 0, .agg #[vb, ptr g q, va]] w (.bool false) := by
  refine Ret_of (vs := [_, _]) hm none' Tryz.func150 rfl Tryz.ntmps150 rfl ?_
  dsimp only [slotsOf]
  refine Zp 2 [0] rfl ?_;refine Zx [_, _, _] rfl rfl fun b3 => ?_;refine Zv rfl ?_;refine Zz ?_;refine GE_drawn (.st 0 (.st 2 (.st 3 (.st 4 (.st 5 (.st 6 (.ld 1 [2, 3, 4, 5, 6] (.st 7 (.st 8 .nil))))))))) [1] (by decide +kernel) ?_;refine ZN [_, _, _] rfl ag_284 sz_284 rfl rfl ?_;refine Zr 2 rfl ?_;refine Zf rfl fo_277_0 ?_;refine Zf rfl fo_195_3 ?_;refine ZL rfl ag_2 (CellAt.old (hb.cell rfl) (noM _)) ?_;refine Zc rfl rn_162 (fun w hw => C_nwidth (h.sh hw) hbd) (Rv rfl rfl (Rv rfl rfl (Rf rfl fo_277_0 rfl (Rf rfl fo_195_3 rfl (GR_S rfl rfl (V_load rfl rfl ag_2 (CellAt.old (hb.cell rfl) (noM _))) GR_nil))))) ?_;refine GT_S rfl (V_gtr rfl rfl rfl) ?_;refine Zv rfl ?_;refine GT_nil ?_;refine GE_ret Tryz.func150 rfl (fun w hw => ⟨?_, hw.nil⟩)
  refine congrArg Value.bool ?_;exact decide_eq_false hx
theorem C_steep (hs : ∀ w' H, SH w none' H w' → Con0 Tryz.prog 163 [.agg #[vb, vh, va]] w' (I s)) (hb : BlkAt w bt (trkC A c r 1000) 277) (hr : 0 ≤ r ∧ r ≤ 4194304) (hs2 : 0 ≤ s ∧ s ≤ 10000) : Con0 Tryz.prog 151 [ptr bt 0, .agg #[vb, vh, va]] w (.bool (decide (710000 * r < 113000000 * s))) := by
  refine Ret_of (vs := [_, _]) hm none' Tryz.func151 rfl Tryz.ntmps151 rfl ?_
  dsimp only [slotsOf]
  refine Zp 2 [0] rfl ?_;refine Zx [_, _, _] rfl rfl fun b3 => ?_;refine Zv rfl ?_;refine Zz ?_;refine GE_drawn (.st 0 (.st 1 (.st 2 (.st 3 (.st 4 (.st 5 (.st 8 (.st 9 (.st 10 (.st 11 (.st 12 (.st 13 (.st 14 (.st 15 (.st 16 (.st 17 (.st 18 (.ld 6 [0, 1, 2, 3, 4, 8, 9, 10, 11, 12, 13, 14, 15, 16, 17, 18] (.st 7 (.st 19 (.st 20 .nil))))))))))))))))))))) [6] (by decide +kernel) ?_;refine Zr 2 rfl ?_;refine Zf rfl fo_277_3 ?_;refine ZL rfl ag_2 (CellAt.old (hb.cell rfl) (noM _)) ?_;refine Za rfl (by omega) ?_;refine ZN [_, _, _] rfl ag_284 sz_284 rfl rfl ?_;refine Zr 2 rfl ?_;refine Zf rfl fo_277_2 ?_;refine ZL rfl ag_2 (CellAt.old (hb.cell rfl) (noM _)) ?_;refine Za rfl (by omega) ?_;refine Zr 2 rfl ?_;refine Zf rfl fo_277_0 ?_;refine Zf rfl fo_195_4 ?_;refine ZL rfl ag_2 (CellAt.old (hb.cell rfl) (noM _)) ?_;refine Za rfl (by omega) ?_;refine Zc rfl rn_163 (fun w hw => hs _ _ hw) (Rv rfl rfl (Rv rfl rfl (Rf rfl fo_277_3 rfl (GR_S rfl rfl (V_load rfl rfl ag_2 (CellAt.old (hb.cell rfl) (noM _))) (GR_S rfl rfl (V_mul rfl rfl rfl (wrap_i64 (by omega))) (Rv rfl rfl (Rv rfl rfl (Rf rfl fo_277_2 rfl (GR_S rfl rfl (V_load rfl rfl ag_2 (CellAt.old (hb.cell rfl) (noM _))) (GR_S rfl rfl (V_mul rfl rfl rfl (wrap_i64 (by omega))) (Rv rfl rfl (Rv rfl rfl (Rf rfl fo_277_0 rfl (Rf rfl fo_195_4 rfl (GR_S rfl rfl (V_load rfl rfl ag_2 (CellAt.old (hb.cell rfl) (noM _))) (GR_S rfl rfl (V_mul rfl rfl rfl (wrap_i64 (by omega))) GR_nil)))))))))))))))) ?_;refine Za rfl (by omega) ?_;refine GT_S rfl (V_gtr rfl rfl rfl) ?_;refine Zv rfl ?_;refine GT_nil ?_;refine GE_ret Tryz.func151 rfl (fun w hw => ⟨?_, hw.nil⟩)
  refine congrArg Value.bool (decide_eq_decide.2 ?_);omega
theorem C_sudden (hs : ∀ w' H, SH w none' H w' → Con0 Tryz.prog 164 [.agg #[vb, vh, va]] w' (I bd)) (hb : BlkAt w bt (trkC A c r 1000) 277) (hx : ¬ 1000 < bd) : Con0 Tryz.prog 152 [ptr bt 0, .agg #[vb, vh, va]] w (.bool false) := by
  refine Ret_of (vs := [_, _]) hm none' Tryz.func152 rfl Tryz.ntmps152 rfl ?_
  dsimp only [slotsOf]
  refine Zp 2 [0] rfl ?_;refine Zx [_, _, _] rfl rfl fun b3 => ?_;refine Zv rfl ?_;refine Zz ?_;refine GE_drawn (.st 0 (.st 2 (.st 3 (.st 4 (.st 5 (.st 6 (.ld 1 [2, 3, 4, 5, 6] (.st 7 (.st 8 .nil))))))))) [1] (by decide +kernel) ?_;refine ZN [_, _, _] rfl ag_284 sz_284 rfl rfl ?_;refine Zr 2 rfl ?_;refine Zf rfl fo_277_0 ?_;refine Zf rfl fo_195_5 ?_;refine ZL rfl ag_2 (CellAt.old (hb.cell rfl) (noM _)) ?_;refine Zc rfl rn_164 (fun w hw => hs _ _ hw) (Rv rfl rfl (Rv rfl rfl (Rf rfl fo_277_0 rfl (Rf rfl fo_195_5 rfl (GR_S rfl rfl (V_load rfl rfl ag_2 (CellAt.old (hb.cell rfl) (noM _))) GR_nil))))) ?_;refine GT_S rfl (V_gtr rfl rfl rfl) ?_;refine Zv rfl ?_;refine GT_nil ?_;refine GE_ret Tryz.func152 rfl (fun w hw => ⟨?_, hw.nil⟩)
  refine congrArg Value.bool ?_;exact decide_eq_false hx
theorem arc_bd (hr : 0 ≤ r ∧ r ≤ 4194304) : 0 ≤ 710 * r * (710 * r) ∧ 710 * r * (710 * r) ≤ 9223372036854775807 := by
  have h1 : 0 ≤ 710 * r := by omega
  have h2 : 710 * r ≤ 2977955840 := by omega
  refine ⟨Int.mul_nonneg h1 h1, ?_⟩
  have := Int.mul_le_mul h2 h2 h1 (by decide)
  omega
theorem C_arc (hb : BlkAt w bt (trkC A c r 1000) 277) (hr : 0 ≤ r ∧ r ≤ 4194304) : Con0 Tryz.prog 165 [ptr bt 0] w (I (710 * r * (710 * r) / 12769000000)) := by
  have h1 := arc_bd hr
  have h2 : (710 * r * (710 * r)).tdiv 12769000000 = 710 * r * (710 * r) / 12769000000 := Int.tdiv_eq_ediv_of_nonneg h1.1
  refine Ret_of (vs := [_]) hm none' Tryz.func165 rfl Tryz.ntmps165 rfl ?_
  dsimp only [slotsOf]
  refine Zp 1 [] rfl ?_;refine Zv rfl ?_;refine Zz ?_;refine GE_drawn (.st 0 (.st 1 (.st 2 (.st 3 (.st 4 (.st 5 (.st 6 (.st 7 (.st 8 (.st 9 (.st 10 (.st 11 .nil)))))))))))) [] (by decide +kernel) ?_;refine Zr 2 rfl ?_;refine Zf rfl fo_277_2 ?_;refine ZL rfl ag_2 (CellAt.old (hb.cell rfl) (noM _)) ?_;refine Za rfl (by omega) ?_;refine Zr 2 rfl ?_;refine Zf rfl fo_277_3 ?_;refine ZL rfl ag_2 (CellAt.old (hb.cell rfl) (noM _)) ?_;refine Za rfl (by omega) ?_;refine Zr 2 rfl ?_;refine GT_nil ?_;refine Zq [3, 4] 8 [] rfl rfl ?_;refine Zr 2 rfl ?_;refine GT_S rfl (V_mul rfl rfl rfl ((wrap_i64 (by omega)))) ?_;refine Zr 2 rfl ?_;refine GT_S rfl (V_mul rfl rfl rfl ((wrap_i64 (show -9223372036854775808 ≤ (113000 : Int) * 113000 ∧ (113000 : Int) * 113000 ≤ 9223372036854775807 by decide)).trans (show (113000 : Int) * 113000 = 12769000000 by decide))) ?_;refine GT_S rfl (V_quo rfl rfl rfl (by omega) ((wrap_i64 (by rw [h2]; omega)).trans h2)) ?_;refine Zv rfl ?_;refine GT_nil ?_;refine GE_ret Tryz.func165 rfl (fun w hw => ⟨?_, hw.nil⟩)
  rfl
theorem C_sharp (hs : ∀ w' H, SH w none' H w' → Con0 Tryz.prog 164 [.agg #[vb, vh, va]] w' (I bd)) (hb : BlkAt w bt (trkC A c r 1000) 277) (hr : 0 ≤ r ∧ r ≤ 4194304) (hx : 0 ≤ bd ∧ bd ≤ 100000) : Con0 Tryz.prog 153 [ptr bt 0, .agg #[vb, vh, va]] w (.bool (decide (710 * r * (710 * r) / 12769000000 < bd * 100))) := by
  refine Ret_of (vs := [_, _]) hm none' Tryz.func153 rfl Tryz.ntmps153 rfl ?_
  dsimp only [slotsOf]
  refine Zp 2 [0] rfl ?_;refine Zx [_, _, _] rfl rfl fun b3 => ?_;refine Zv rfl ?_;refine Zz ?_;refine GE_drawn (.st 0 (.st 2 (.st 3 (.st 4 (.st 5 (.st 6 (.st 8 (.ld 1 [2, 3, 4, 5, 6, 8] (.st 7 (.ld 9 [2, 3, 4, 5, 6, 7] (.st 10 (.st 11 .nil)))))))))))) [1, 9] (by decide +kernel) ?_;refine ZN [_, _, _] rfl ag_284 sz_284 rfl rfl ?_;refine Zr 2 rfl ?_;refine Zf rfl fo_277_0 ?_;refine Zf rfl fo_195_6 ?_;refine ZL rfl ag_2 (CellAt.old (hb.cell rfl) (noM _)) ?_;refine Zv rfl ?_;refine Zc rfl rn_164 (fun w hw => hs _ _ hw) (Rv rfl rfl (Rv rfl rfl (Rf rfl fo_277_0 rfl (Rf rfl fo_195_6 rfl (GR_S rfl rfl (V_load rfl rfl ag_2 (CellAt.old (hb.cell rfl) (noM _))) (Rv rfl rfl GR_nil)))))) ?_;refine Za rfl (by omega) ?_;refine Zc rfl rn_165 (fun w hw => C_arc (hb.sh hw) hr) (Rv rfl rfl (Rv rfl rfl (Rf rfl fo_277_0 rfl (Rf rfl fo_195_6 rfl (GR_S rfl rfl (V_load rfl rfl ag_2 (CellAt.old (hb.cell rfl) (noM _))) (GR_S rfl rfl (V_mul rfl rfl rfl (wrap_i64 (by omega))) GR_nil)))))) ?_;refine GT_S rfl (V_gtr rfl rfl rfl) ?_;refine Zv rfl ?_;refine GT_nil ?_;refine GE_ret Tryz.func153 rfl (fun w hw => ⟨?_, hw.nil⟩)
  rfl
end
end Go.Proofs.YtncleikbggjmjaaGreatDoor.Side
/- The example's groove: its rule at a point, its points, walked. -/
namespace Go.Proofs.YtncleikbggjmjaaGreatDoor.Side
open Go.Sx Go.Proofs Go.RowKit
def fid : Nat → Nat
  | 1 => 149
  | 2 => 150
  | 3 => 151
  | 4 => 152
  | _ => 153
abbrev rulC : List Value := [.nilFunc, .func (.func 149) #[] #[], .func (.func 150) #[] #[], .func (.func 151) #[] #[], .func (.func 152) #[] #[], .func (.func 153) #[] #[]]
theorem rulC_at {i : Nat} (h : 1 ≤ i ∧ i < 6) : rulC[0 + i * 1]? = some (.func (.func (fid i)) #[] #[]) := by
  rcases (show i = 1 ∨ i = 2 ∨ i = 3 ∨ i = 4 ∨ i = 5 by omega) with rfl | rfl | rfl | rfl | rfl <;> rfl
theorem runs_fid {i : Nat} (h : 1 ≤ i ∧ i < 6) : runs Tryz.prog (fid i) = true := by
  rcases (show i = 1 ∨ i = 2 ∨ i = 3 ∨ i = 4 ∨ i = 5 by omega) with rfl | rfl | rfl | rfl | rfl
  · exact rn_149
  · exact rn_150
  · exact rn_151
  · exact rn_152
  · exact rn_153
structure RulOk (w : World) (bt : Nat) (vb vh va : Value) (st : Bool) : Prop where
  thin : ∀ w' H, SH w none' H w' → Con0 Tryz.prog 149 [ptr bt 0, .agg #[vb, vh, va]] w' (.bool false)
  wide : ∀ w' H, SH w none' H w' → Con0 Tryz.prog 150 [ptr bt 0, .agg #[vb, vh, va]] w' (.bool false)
  steep : ∀ w' H, SH w none' H w' → Con0 Tryz.prog 151 [ptr bt 0, .agg #[vb, vh, va]] w' (.bool st)
  sudden : ∀ w' H, SH w none' H w' → Con0 Tryz.prog 152 [ptr bt 0, .agg #[vb, vh, va]] w' (.bool false)
  sharp : st = false → ∀ w' H, SH w none' H w' → Con0 Tryz.prog 153 [ptr bt 0, .agg #[vb, vh, va]] w' (.bool false)
def resB (st : Bool) (i : Nat) : Bool := decide (i = 3) && st
section
variable {w : World} {A : Option Addr} {c g q q0 q2 bt i : Nat} {va vb vh : Value} {r : Int} {st : Bool}
theorem RulOk.at (h : RulOk w bt vb vh va st) (hi : 1 ≤ i ∧ i < 6) (h3 : 3 < i → st = false) : ∀ w' H, SH w none' H w' → Con0 Tryz.prog (fid i) [ptr bt 0, .agg #[vb, vh, va]] w' (.bool (resB st i)) := by
  intro w' H m
  rcases (show i = 1 ∨ i = 2 ∨ i = 3 ∨ i = 4 ∨ i = 5 by omega) with rfl | rfl | rfl | rfl | rfl
  · exact h.thin _ _ m
  · exact h.wide _ _ m
  · exact h.steep _ _ m
  · exact h.sudden _ _ m
  · exact h.sharp (h3 (by omega)) _ _ m
set_option maxRecDepth 20000 in
theorem C_rule (h : RulOk w bt vb vh va st) : Con0 Tryz.prog 133 [ptr bt 0, .agg #[vb, vh, va]] w (I (if st = true then 3 else 0)) := by
  refine Ret_of (vs := [_, _]) hm none' Tryz.func133 rfl Tryz.ntmps133 rfl ?_
  dsimp only [slotsOf]
  refine Zp 2 [0] rfl ?_;refine Zx [_, _, _] rfl rfl fun b3 => ?_;refine Zv rfl ?_;refine GT_nil ?_;refine Zp 3 [1, 2] rfl ?_;refine GT_S rfl (V_build (vs := [_, _, _, _, _, _]) rfl rfl zc_302 pl_302 sa_302 rfl) ?_;refine Zb rfl zc_302 fun b5 => ?_;refine ZS [_, _, _, _, _, _] [_, _, _, _, _, _] rfl rfl sz_302 rfl rfl rfl ?_;refine Zz ?_;refine Zp 1 [] rfl ?_;refine Zv rfl ?_;refine GT_nil ?_;refine GE_block ?_;refine GE_to (GE_loop (ι := Nat) (fun i => 6 - i) (fun i => [(0, ptr bt 0), (3, ptr b3 0), (5, ptr b5 0), (6, I i)]) (fun i => [(b5, blk rulC 302), (b3, blk [vb, vh, va] 284)]) (fun i => (1 ≤ i ∧ i ≤ 6) ∧ (3 < i → st = false)) ?_ 1 ?_) ⟨rfl, rfl, rfl, rfl, trivial⟩ (HS.cons rfl (HS.cons rfl HS.nil))
  · rintro i ⟨hi, h3⟩ ih
    refine GE_seq ?_;refine Zp 2 [] rfl ?_;refine Zv rfl ?_;refine GT_S rfl (V_lss rfl rfl rfl) ?_;refine GT_nil ?_;refine GE_cond rfl (fun q1 => ?_) (fun q1 => ?_)
    · have hi6 : i < 6 := (by omega)
      refine GE_skip ?_;refine GE_seq ?_;refine GE_block ?_;refine GE_seq ?_;refine GE_drawn (.st 0 (.st 1 (.st 2 (.st 3 (.st 4 (.ld 5 [] .nil)))))) [5] (by decide +kernel) ?_;refine Zv rfl ?_;refine GT_S rfl (V_indexArr rfl rfl rfl Tryz.underlying302 sz_300 (kk := i) rfl hi6) ?_;refine ZL rfl ag_300 (CellAt.item (rulC_at ⟨hi.1, hi6⟩)) ?_;refine Zv rfl ?_;refine ZN [_, _, _] rfl ag_284 sz_284 rfl rfl ?_;refine GT_call0 (fi := fid i) rfl rfl rfl rfl rfl rfl rfl rfl (runs_fid ⟨hi.1, hi6⟩) (fun w hw => h.at ⟨hi.1, hi6⟩ h3 _ _ hw) GR_nil ?_;refine GT_nil ?_;refine GE_condB rfl (fun q2 => ?_) (fun q2 => ?_)
      · have hq : i = 3 ∧ st = true := (by simpa [resB] using q2)
        refine Zq [6] 2 [] rfl rfl ?_;refine Zr 2 rfl ?_;refine GT_nil ?_;refine GE_ret Tryz.func133 rfl (fun w hw => ⟨?_, hw.nil⟩)
        rw [if_pos hq.2, hq.1]; rfl
      · refine GE_skip ?_;refine GE_inBlock ?_;refine Zs [0, 3, 5, 6] rfl ?_;refine ZP 3 [2] rfl ?_;refine Zv rfl ?_;refine Za rfl (by omega) ?_;refine Zw rfl ?_;refine GT_nil ?_
        exact GE_to (ih (i + 1) ⟨⟨by omega, by omega⟩, fun q => by by_cases e : i = 3; (subst e; simpa [resB] using q2); exact h3 (by omega)⟩ (by omega)) ⟨rfl, rfl, rfl, rfl, trivial⟩ (HS.cons rfl (HS.cons rfl HS.nil))
    · have hst := h3 (by omega)
      refine GE_exit rfl ?_;refine Zq [] 1 [] rfl rfl ?_;refine Zv rfl ?_;refine GT_nil ?_;refine GE_ret Tryz.func133 rfl (fun w hw => ⟨?_, hw.nil⟩)
      rw [hst]; rfl
  · exact ⟨⟨by omega, by omega⟩, fun q => by omega⟩
def nrV (g : Nat) : Nat → Value
  | 0 => .agg #[.pointer none, ptr g 0, ptr g 2]
  | 1 => .agg #[ptr g 0, ptr g 2, ptr g 4]
  | _ => .agg #[ptr g 2, ptr g 4, .pointer none]
theorem C_gat0 (hb : BlkAt w bt (trkC (some ⟨g, 0, none⟩) c r 1000) 277) : Con0 Tryz.prog 148 [ptr bt 0, I 0] w (.agg #[.pointer none, ptr g 0, ptr g 2]) := by
  refine Ret_of (vs := [_, _]) hm none' Tryz.func148 rfl Tryz.ntmps148 rfl ?_
  dsimp only [slotsOf]
  refine Zp 1 [0] rfl ?_;refine Zb rfl zc_284 fun b4 => ?_;refine GT_nil ?_;refine Zp 9 [7, 8] rfl ?_;refine Zr 2 rfl ?_;refine Zf rfl fo_277_1 ?_;refine ZL rfl ag_109 (CellAt.old (hb.cell rfl) (noM _)) ?_;refine Zv rfl ?_;refine GT_S rfl (V_index rfl rfl rfl Tryz.underlying109 sz_115 (k := 0) rfl (by decide) rfl) ?_;refine GT_S rfl (V_build (vs := [_, _, _]) rfl rfl zc_284 pl_284 sa_284 rfl) ?_;refine Zb rfl zc_284 fun b5 => ?_;refine ZS [_, _, _] [_, _, _] rfl rfl sz_284 rfl rfl rfl ?_;refine Zz ?_;refine Zq [0, 1, 4, 5] 2 [] rfl rfl ?_;refine Zv rfl ?_;refine GT_S rfl (V_isF (V_gtr rfl rfl rfl) (by decide)) ?_;refine GT_nil ?_;refine GE_cond_f rfl ?_;refine GE_skip ?_;refine GE_seq ?_;refine Zp 8 [] rfl ?_;refine Zv rfl ?_;refine Za rfl (by omega) ?_;refine Zr 2 rfl ?_;refine Zf rfl fo_277_1 ?_;refine ZL rfl ag_109 (CellAt.old (hb.cell rfl) (noM _)) ?_;refine Zn rfl Tryz.underlying109 ?_;refine GT_S rfl (V_isT (V_lss rfl rfl rfl) (by decide)) ?_;refine GT_nil ?_;refine GE_cond_t rfl ?_;refine Zs [0, 1, 4, 5] rfl ?_;refine ZP 9 [8] rfl ?_;refine Zr 2 rfl ?_;refine Zf rfl fo_277_1 ?_;refine ZL rfl ag_109 (CellAt.old (hb.cell rfl) (noM _)) ?_;refine Zv rfl ?_;refine Za rfl (by omega) ?_;refine GT_S rfl (V_index rfl rfl rfl Tryz.underlying109 sz_115 (k := 1) rfl (by decide) rfl) ?_;refine Zf rfl fo_284_2 ?_;refine ZS [_] [_, _, _] rfl rfl sz_282 rfl rfl rfl ?_;refine GT_nil ?_;refine Zq [4, 5] 2 [1] rfl rfl ?_;refine ZN [_, _, _] rfl ag_284 sz_284 rfl rfl ?_;refine ZS [_, _, _] [_, _, _] rfl rfl sz_284 rfl rfl rfl ?_;refine GT_nil ?_;refine GE_ret Tryz.func148 ⟨_, rfl, fun w m => run_loadVar_agg (vs := [_, _, _]) ag_284 sz_284 rfl (fun j v hj => CellsAt.item rfl j v hj w m)⟩ (fun w hw => ⟨?_, hw.nil⟩)
  rfl
theorem C_gat1 (hb : BlkAt w bt (trkC (some ⟨g, 0, none⟩) c r 1000) 277) : Con0 Tryz.prog 148 [ptr bt 0, I 1] w (.agg #[ptr g 0, ptr g 2, ptr g 4]) := by
  refine Ret_of (vs := [_, _]) hm none' Tryz.func148 rfl Tryz.ntmps148 rfl ?_
  dsimp only [slotsOf]
  refine Zp 1 [0] rfl ?_;refine Zb rfl zc_284 fun b4 => ?_;refine GT_nil ?_;refine Zp 9 [7, 8] rfl ?_;refine Zr 2 rfl ?_;refine Zf rfl fo_277_1 ?_;refine ZL rfl ag_109 (CellAt.old (hb.cell rfl) (noM _)) ?_;refine Zv rfl ?_;refine GT_S rfl (V_index rfl rfl rfl Tryz.underlying109 sz_115 (k := 1) rfl (by decide) rfl) ?_;refine GT_S rfl (V_build (vs := [_, _, _]) rfl rfl zc_284 pl_284 sa_284 rfl) ?_;refine Zb rfl zc_284 fun b5 => ?_;refine ZS [_, _, _] [_, _, _] rfl rfl sz_284 rfl rfl rfl ?_;refine Zz ?_;refine Zq [0, 1, 4, 5] 2 [] rfl rfl ?_;refine Zv rfl ?_;refine GT_S rfl (V_isT (V_gtr rfl rfl rfl) (by decide)) ?_;refine GT_nil ?_;refine GE_cond_t rfl ?_;refine ZP 9 [8] rfl ?_;refine Zr 2 rfl ?_;refine Zf rfl fo_277_1 ?_;refine ZL rfl ag_109 (CellAt.old (hb.cell rfl) (noM _)) ?_;refine Zv rfl ?_;refine Za rfl (by omega) ?_;refine GT_S rfl (V_index rfl rfl rfl Tryz.underlying109 sz_115 (k := 0) rfl (by decide) rfl) ?_;refine Zf rfl fo_284_0 ?_;refine ZS [_] [_, _, _] rfl rfl sz_282 rfl rfl rfl ?_;refine Zz ?_;refine Zq [0, 1, 4, 5] 8 [] rfl rfl ?_;refine Zv rfl ?_;refine Za rfl (by omega) ?_;refine Zr 2 rfl ?_;refine Zf rfl fo_277_1 ?_;refine ZL rfl ag_109 (CellAt.old (hb.cell rfl) (noM _)) ?_;refine Zn rfl Tryz.underlying109 ?_;refine GT_S rfl (V_isT (V_lss rfl rfl rfl) (by decide)) ?_;refine GT_nil ?_;refine GE_cond_t rfl ?_;refine Zs [0, 1, 4, 5] rfl ?_;refine ZP 9 [8] rfl ?_;refine Zr 2 rfl ?_;refine Zf rfl fo_277_1 ?_;refine ZL rfl ag_109 (CellAt.old (hb.cell rfl) (noM _)) ?_;refine Zv rfl ?_;refine Za rfl (by omega) ?_;refine GT_S rfl (V_index rfl rfl rfl Tryz.underlying109 sz_115 (k := 2) rfl (by decide) rfl) ?_;refine Zf rfl fo_284_2 ?_;refine ZS [_] [_, _, _] rfl rfl sz_282 rfl rfl rfl ?_;refine GT_nil ?_;refine Zq [4, 5] 2 [1] rfl rfl ?_;refine ZN [_, _, _] rfl ag_284 sz_284 rfl rfl ?_;refine ZS [_, _, _] [_, _, _] rfl rfl sz_284 rfl rfl rfl ?_;refine GT_nil ?_;refine GE_ret Tryz.func148 ⟨_, rfl, fun w m => run_loadVar_agg (vs := [_, _, _]) ag_284 sz_284 rfl (fun j v hj => CellsAt.item rfl j v hj w m)⟩ (fun w hw => ⟨?_, hw.nil⟩)
  rfl
theorem C_gat2 (hb : BlkAt w bt (trkC (some ⟨g, 0, none⟩) c r 1000) 277) : Con0 Tryz.prog 148 [ptr bt 0, I 2] w (.agg #[ptr g 2, ptr g 4, .pointer none]) := by
  refine Ret_of (vs := [_, _]) hm none' Tryz.func148 rfl Tryz.ntmps148 rfl ?_
  dsimp only [slotsOf]
  refine Zp 1 [0] rfl ?_;refine Zb rfl zc_284 fun b4 => ?_;refine GT_nil ?_;refine Zp 9 [7, 8] rfl ?_;refine Zr 2 rfl ?_;refine Zf rfl fo_277_1 ?_;refine ZL rfl ag_109 (CellAt.old (hb.cell rfl) (noM _)) ?_;refine Zv rfl ?_;refine GT_S rfl (V_index rfl rfl rfl Tryz.underlying109 sz_115 (k := 2) rfl (by decide) rfl) ?_;refine GT_S rfl (V_build (vs := [_, _, _]) rfl rfl zc_284 pl_284 sa_284 rfl) ?_;refine Zb rfl zc_284 fun b5 => ?_;refine ZS [_, _, _] [_, _, _] rfl rfl sz_284 rfl rfl rfl ?_;refine Zz ?_;refine Zq [0, 1, 4, 5] 2 [] rfl rfl ?_;refine Zv rfl ?_;refine GT_S rfl (V_isT (V_gtr rfl rfl rfl) (by decide)) ?_;refine GT_nil ?_;refine GE_cond_t rfl ?_;refine ZP 9 [8] rfl ?_;refine Zr 2 rfl ?_;refine Zf rfl fo_277_1 ?_;refine ZL rfl ag_109 (CellAt.old (hb.cell rfl) (noM _)) ?_;refine Zv rfl ?_;refine Za rfl (by omega) ?_;refine GT_S rfl (V_index rfl rfl rfl Tryz.underlying109 sz_115 (k := 1) rfl (by decide) rfl) ?_;refine Zf rfl fo_284_0 ?_;refine ZS [_] [_, _, _] rfl rfl sz_282 rfl rfl rfl ?_;refine Zz ?_;refine Zq [0, 1, 4, 5] 8 [] rfl rfl ?_;refine Zv rfl ?_;refine Za rfl (by omega) ?_;refine Zr 2 rfl ?_;refine Zf rfl fo_277_1 ?_;refine ZL rfl ag_109 (CellAt.old (hb.cell rfl) (noM _)) ?_;refine Zn rfl Tryz.underlying109 ?_;refine GT_S rfl (V_isF (V_lss rfl rfl rfl) (by decide)) ?_;refine GT_nil ?_;refine GE_cond_f rfl ?_;refine GE_skip ?_;refine Zq [4, 5] 2 [1] rfl rfl ?_;refine ZN [_, _, _] rfl ag_284 sz_284 rfl rfl ?_;refine ZS [_, _, _] [_, _, _] rfl rfl sz_284 rfl rfl rfl ?_;refine GT_nil ?_;refine GE_ret Tryz.func148 ⟨_, rfl, fun w m => run_loadVar_agg (vs := [_, _, _]) ag_284 sz_284 rfl (fun j v hj => CellsAt.item rfl j v hj w m)⟩ (fun w hw => ⟨?_, hw.nil⟩)
  rfl
theorem C_gat {k : Nat} (hk : k < 3) (hb : BlkAt w bt (trkC (some ⟨g, 0, none⟩) c r 1000) 277) : Con0 Tryz.prog 148 [ptr bt 0, I k] w (nrV g k) := by
  rcases (show k = 0 ∨ k = 1 ∨ k = 2 by omega) with rfl | rfl | rfl
  · exact C_gat0 hb
  · exact C_gat1 hb
  · exact C_gat2 hb
end
end Go.Proofs.YtncleikbggjmjaaGreatDoor.Side
/- The fault of the example's groove at a radius, walked. -/
namespace Go.Proofs.YtncleikbggjmjaaGreatDoor.Side
open Go.Sx Go.Proofs Go.RowKit
theorem sh_trans {w w1 w2 : World} {H1 H2 : Items} (h1 : SH w none' H1 w1) (h2 : SH w1 none' H2 w2) : SH w none' [] w2 :=
  ⟨h2.os.trans h1.os, h2.tape.trans h1.tape, h2.output.trans h1.output, Nat.le_trans h1.size h2.size, fun k hk hM => (h2.old k (Nat.lt_of_lt_of_le hk h1.size) (fun q => q)).trans (h1.old k hk hM), by simp, by simp⟩
theorem RulOk.sh {w w1 : World} {bt : Nat} {vb vh va : Value} {st : Bool} {H1 : Items} (h : RulOk w bt vb vh va st) (m : SH w none' H1 w1) : RulOk w1 bt vb vh va st :=
  ⟨fun w' _ m2 => h.thin w' _ (sh_trans m m2), fun w' _ m2 => h.wide w' _ (sh_trans m m2), fun w' _ m2 => h.steep w' _ (sh_trans m m2), fun w' _ m2 => h.sudden w' _ (sh_trans m m2), fun q w' _ m2 => h.sharp q w' _ (sh_trans m m2)⟩
def stK (r : Int) (k : Nat) : Bool := decide (1 ≤ k) && decide (r ≤ 31830)
section
variable {w w0 : World} {A : Option Addr} {c g bt b1 lp k : Nat} {r : Int}
theorem ptAt_of (h : RdL w 2 eP2 (some ⟨g, 0, none⟩) ptE) : PtAt w g 0 (-400) 400 ∧ PtAt w g 2 (-200) 600 ∧ PtAt w g 4 (-400) 400 := by
  have h0 := h.2 0 (-400, 400) rfl
  have h1 := h.2 1 (-200, 600) rfl
  have h2 := h.2 2 (-400, 400) rfl
  exact ⟨⟨h0 0 _ rfl, h0 1 _ rfl⟩, ⟨h1 0 _ rfl, h1 1 _ rfl⟩, ⟨h2 0 _ rfl, h2 1 _ rfl⟩⟩
theorem steep_iff {s : Int} : s = 0 ∨ s = 200 → (0 ≤ r) → decide (710000 * r < 113000000 * s) = (decide (s = 200) && decide (r ≤ 31830)) := by
  intro h hr
  rcases h with rfl | rfl
  · rw [decide_eq_false (by omega)]; rfl
  · rw [show decide ((200 : Int) = 200) = true from rfl, Bool.true_and]
    exact decide_eq_decide.2 (by omega)
theorem arc_ge {r : Int} (h : 31831 ≤ r) : ¬ 710 * r * (710 * r) / 12769000000 < 400 * 100 := by
  have h1 : 22600010 ≤ 710 * r := by omega
  have h2 := Int.mul_le_mul h1 h1 (by decide) (by omega)
  omega
theorem rulOk (hb : BlkAt w bt (trkC A c r 1000) 277) (hP : RdL w 2 eP2 (some ⟨g, 0, none⟩) ptE) (hr : 0 ≤ r ∧ r ≤ 4194304) (hk : k < 3) : ∃ pb ph pa, nrV g k = .agg #[.pointer pb, .pointer ph, .pointer pa] ∧ RulOk w bt (.pointer pb) (.pointer ph) (.pointer pa) (stK r k) := by
  obtain ⟨p0, p1, p2⟩ := ptAt_of hP
  have ha : ∀ z : Int, z = 0 → ¬ 710 * r * (710 * r) / 12769000000 < z * 100 := fun z hz => by
    have := (arc_bd hr).1
    subst hz; omega
  rcases (show k = 0 ∨ k = 1 ∨ k = 2 by omega) with rfl | rfl | rfl
  · refine ⟨_, _, _, rfl, fun w' H m => C_thin (p0.sh m) (by decide) (hb.sh m) (by decide), fun w' H m => C_wide (p0.sh m) (by decide) (hb.sh m) (by decide), fun w' H m => ?_, fun w' H m => C_sudden (fun _ _ _ => C_bend0) (hb.sh m) (by decide), fun _ w' H m => ?_⟩
    · have := C_steep (A := A) (c := c) (fun _ _ _ => C_step0) (hb.sh m) hr (by decide) (vh := ptr g 0) (va := ptr g 2)
      rw [steep_iff (.inl rfl) hr.1] at this
      exact this
    · have := C_sharp (A := A) (c := c) (fun _ _ _ => C_bend0) (hb.sh m) hr (by decide) (vh := ptr g 0) (va := ptr g 2)
      rw [decide_eq_false (ha 0 rfl)] at this
      exact this
  · refine ⟨_, _, _, rfl, fun w' H m => C_thin (p1.sh m) (by decide) (hb.sh m) (by decide), fun w' H m => C_wide (p1.sh m) (by decide) (hb.sh m) (by decide), fun w' H m => ?_, fun w' H m => C_sudden (bd := 400) (fun _ _ m2 => C_bend2 (p0.sh (sh_trans m m2)) (p1.sh (sh_trans m m2)) (p2.sh (sh_trans m m2)) (by decide) (by decide) (by decide)) (hb.sh m) (by decide), fun q w' H m => ?_⟩
    · have := C_steep (A := A) (c := c) (s := 200) (fun _ _ m2 => C_step2 (va := ptr g 4) (p0.sh (sh_trans m m2)) (p1.sh (sh_trans m m2)) (by decide) (by decide)) (hb.sh m) hr (by decide)
      rw [steep_iff (.inr rfl) hr.1] at this
      exact this
    · have := C_sharp (A := A) (c := c) (bd := 400) (fun _ _ m2 => C_bend2 (p0.sh (sh_trans m m2)) (p1.sh (sh_trans m m2)) (p2.sh (sh_trans m m2)) (by decide) (by decide) (by decide)) (hb.sh m) hr (by decide)
      rw [decide_eq_false (arc_ge (r := r) (by have q2 : 31830 < r := (by simpa [stK] using q); omega))] at this
      exact this
  · refine ⟨_, _, _, rfl, fun w' H m => C_thin (p2.sh m) (by decide) (hb.sh m) (by decide), fun w' H m => C_wide (p2.sh m) (by decide) (hb.sh m) (by decide), fun w' H m => ?_, fun w' H m => C_sudden (fun _ _ _ => C_bendN) (hb.sh m) (by decide), fun _ w' H m => ?_⟩
    · have := C_steep (A := A) (c := c) (s := 200) (fun _ _ m2 => C_step2 (va := .pointer none) (p1.sh (sh_trans m m2)) (p2.sh (sh_trans m m2)) (by decide) (by decide)) (hb.sh m) hr (by decide)
      rw [steep_iff (.inr rfl) hr.1] at this
      exact this
    · have := C_sharp (A := A) (c := c) (fun _ _ _ => C_bendN (g := g) (q0 := 2) (vh := ptr g 4)) (hb.sh m) hr (by decide)
      rw [decide_eq_false (ha 0 rfl)] at this
      exact this
theorem C_gall : Con Tryz.prog 132 [ptr bt 0] w (fun _ : Nat => True) (fun b => .func (.func 147) #[] #[ptr b 0]) (fun b => [(b, blk [ptr bt 0] 250)]) := by
  refine Ret_of (vs := [_]) hm none' Tryz.func132 rfl Tryz.ntmps132 rfl ?_
  dsimp only [slotsOf]
  refine Zp 2 [0] rfl ?_;refine Zx [_] rfl rfl fun b1 => ?_;refine Zv rfl ?_;refine GT_nil ?_;refine Zp 2 [] rfl ?_;refine GT_S rfl (V_makeFunc rfl rfl rfl) ?_;refine Zv rfl ?_;refine GT_nil ?_;refine GE_ret Tryz.func132 rfl (fun w hw => ?_)
  exact ⟨_, trivial, rfl, hw.hs (C := cx Tryz.prog hm 0 0 _ none' fun _ _ => True) (HS.cons rfl HS.nil)⟩
set_option maxRecDepth 10000 in
theorem C_gall1 {Q : Nat → Items → Prop} {Qx : Items → Prop} {J G : Items} (hb : BlkAt w0 bt (trkC (some ⟨g, 0, none⟩) c r 1000) 277)
    (hY : ∀ k J, k < 3 → Q k J → ∀ G, YieldTo Tryz.prog w0 none' lp [I k, nrV g k] (J ++ G) fun v H' => ∃ J', H' = J' ++ G ∧ (v = .bool true ∧ Q (k + 1) J' ∨ v = .bool false ∧ Qx J'))
    (hQ : Q 0 J) (m : SH w0 none' (J ++ ((b1, blk [ptr bt 0] 250) :: G)) w) :
    Ret Tryz.prog 147 [.func (.yield lp) #[] #[], ptr b1 0].toArray w fun _ w' => ∃ J', (Q 3 J' ∨ Qx J') ∧ SH w0 none' (J' ++ G) w' := by
  refine Ret_ofH (vs := [_, _]) hm none' Tryz.func147 rfl Tryz.ntmps147 rfl m ?_
  dsimp only [slotsOf]
  refine Zp 6 [] rfl ?_;refine Zl rfl ag_250 rfl ?_;refine Zv rfl ?_;refine Zf rfl fo_277_1 ?_;refine ZL rfl ag_109 (CellAt.old (hb.cell rfl) (noM _)) ?_;refine Zn rfl Tryz.underlying109 ?_;refine Zv rfl ?_;refine GT_nil ?_;refine GE_block ?_;refine GE_to (GE_loop (ι := Nat × Items) (fun z => 3 - z.1) (fun z => [(0, .func (.yield lp) #[] #[]), (1, ptr b1 0), (8, I 3), (9, I z.1)]) (fun z => z.2 ++ ((b1, blk [ptr bt 0] 250) :: G)) (fun z => z.1 ≤ 3 ∧ Q z.1 z.2) ?_ (0, J) ?_) ⟨rfl, rfl, rfl, rfl, trivial⟩ (HS.chunk (HS.cons rfl HS.last))
  · rintro ⟨k, J1⟩ ⟨hk, hQ1⟩ ih; dsimp only at hk hQ1 ih ⊢
    refine Zp 1 [] rfl ?_;refine GT_S rfl (V_lss rfl rfl rfl) ?_;refine Zz ?_;refine GE_cond rfl (fun q1 => ?_) (fun q1 => ?_)
    · have hk3 : k < 3 := (by omega)
      refine GE_skip ?_;refine GE_seq ?_;refine GE_block ?_;refine Zp 2 [] rfl ?_;refine Zr 2 rfl ?_;refine GT_nil ?_;refine Zp 7 [4, 5] rfl ?_;refine Zr 2 rfl ?_;refine Zl rfl ag_250 rfl ?_;refine Zv rfl ?_;refine Zc rfl rn_148 (fun w hw => C_gat hk3 (hb.sh hw)) GR_nil ?_;refine GT_yield rfl rfl rfl rfl rfl rfl rfl (YieldTo.chunk (hY k J1 hk3 hQ1 _)) (fun _ _ _ => GR_nil) (fun v H' hR => ?_)
      rcases hR with ⟨J2, rfl, ⟨rfl, hQ2⟩ | ⟨rfl, hX⟩⟩
      · refine GT_S rfl (V_notB rfl rfl) ?_;refine GT_nil ?_;refine GE_cond_f rfl ?_;refine GE_skip ?_;refine GE_inBlock ?_;refine Zs [0, 1, 8, 9] rfl ?_;refine ZP 2 [1] rfl ?_;refine Za rfl (by omega) ?_;refine Zw rfl ?_;refine GT_nil ?_
        exact GE_to (ih (k + 1, J2) ⟨by dsimp only; omega, hQ2⟩ (by dsimp only; omega)) ⟨rfl, rfl, rfl, rfl, trivial⟩ (HS.chunk (HS.cons rfl HS.last))
      · refine GT_S rfl (V_notB rfl rfl) ?_;refine GT_nil ?_;refine GE_cond_t rfl ?_;refine GE_ret Tryz.func147 rfl (fun w hw => ?_)
        first | exact ⟨J2, .inr hX, hw.hs (C := cx Tryz.prog hm 0 0 w0 none' fun _ _ => True) (HS.chunk HS.last)⟩ | exact ⟨J1, .inl hQ1, hw.hs (C := cx Tryz.prog hm 0 0 w0 none' fun _ _ => True) (HS.chunk HS.last)⟩
    · obtain rfl : k = 3 := (by omega)
      refine GE_exit rfl ?_;refine GE_end Tryz.func147 rfl (fun w hw => ?_)
      first | exact ⟨J2, .inr hX, hw.hs (C := cx Tryz.prog hm 0 0 w0 none' fun _ _ => True) (HS.chunk HS.last)⟩ | exact ⟨J1, .inl hQ1, hw.hs (C := cx Tryz.prog hm 0 0 w0 none' fun _ _ => True) (HS.chunk HS.last)⟩
  · exact ⟨Nat.zero_le _, hQ⟩
set_option maxRecDepth 20000 in
theorem C_fault (hb : BlkAt w bt (trkC (some ⟨g, 0, none⟩) c r 1000) 277) (hP : RdL w 2 eP2 (some ⟨g, 0, none⟩) ptE) (hr : 0 ≤ r ∧ r ≤ 4194304) : Con0 Tryz.prog 117 [ptr bt 0] w (.tuple #[I (if r ≤ 31830 then 1 else 0), I (if r ≤ 31830 then 3 else 0)]) := by
  refine Ret_of (vs := [_]) hm none' Tryz.func117 rfl Tryz.ntmps117 rfl ?_
  dsimp only [slotsOf]
  refine Zp 3 [0, 1, 2] rfl ?_;refine Zx [_] rfl rfl fun b1 => ?_;refine Zb rfl zc_3 fun b2 => ?_;refine Zb rfl zc_3 fun b3 => ?_;refine Zz ?_;refine Zp 2 [1] rfl ?_;refine Zl rfl ag_250 rfl ?_;refine ZC rfl rn_132 (fun w hw => C_gall) (fun _ _ => GR_nil) (fun ba _ => ?_);refine GT_nil ?_;refine GE_block ?_;refine GE_range rfl rfl rn_147 (fun T l5 q r0 hr0 hT hlk w hw => ?_);refine (C_gall1 (b1 := ba) (lp := l5) (J := (l5, .loop r0) :: (b1, blk [ptr bt 0] 250) :: (b2, blk [I 0] 3) :: (b3, blk [I 0] 3) :: []) (G := [(q, .deferred (some []))])
    (Q := fun k J => (1 < k → ¬ r ≤ 31830) ∧ J = (l5, .loop r0) :: (b1, blk [ptr bt 0] 250) :: (b2, blk [I 0] 3) :: (b3, blk [I 0] 3) :: [])
    (Qx := fun J => r ≤ 31830 ∧ J = (l5, .loop { r0 with state := .done, pending := some .ret }) :: (b2, blk [I 1] 3) :: (b3, blk [I 3] 3) :: [])
    hb ?_ ⟨fun q => by omega, rfl⟩ (hw.hs ((show HS _ _ ((l5, .loop r0) :: (b1, _) :: (b2, _) :: (b3, _) :: (ba, _) :: [(q, .deferred (some []))]) from HS.cons rfl (HS.cons rfl (HS.cons rfl (HS.cons rfl (HS.cons rfl (HS.cons rfl HS.nil)))))))) ).mono (fun v w' ⟨J', hQ', hw'⟩ => ?_)
  · rintro k J hk3 ⟨hq1, hJ⟩ G; subst hJ; subst hr0
    obtain ⟨pb, ph, pa, e, hR⟩ := rulOk hb hP hr hk3
    rw [e]
    refine yield_of inferInstance rfl rfl hT hlk rfl rfl hm ?_;refine GE_slots (L' := [(1, ptr b1 0), (2, ptr b2 0), (3, ptr b3 0), (9, I k), (10, .agg #[.pointer pb, .pointer ph, .pointer pa])]) ⟨rfl, rfl, rfl, rfl, rfl, trivial⟩ ?_;refine Zp 1 [] rfl ?_;refine Zv rfl ?_;refine GT_nil ?_;refine ZP 2 [0, 1] rfl ?_;refine Zb rfl zc_284 fun b5 => ?_;refine ZS [_, _, _] [_, _, _] rfl rfl sz_284 rfl rfl rfl ?_;refine GT_nil ?_;refine GE_beginRound rfl ?_;refine GE_block ?_;refine Zp 4 [2] rfl ?_;refine Zl rfl ag_250 rfl ?_;refine ZN [_, _, _] rfl ag_284 sz_284 rfl rfl ?_;refine Zc rfl rn_133 (fun w hw => C_rule (hR.sh hw)) GR_nil ?_;refine Zv rfl ?_;refine GT_nil ?_;refine Zq [2, 3, 4, 6] 2 [] rfl rfl ?_;refine Zv rfl ?_;refine GT_S rfl (V_gtr rfl rfl rfl) ?_;refine GT_nil ?_;refine GE_cond rfl (fun q2 => ?_) (fun q2 => ?_)
    · refine Zp 4 [2, 3] rfl ?_;refine Zr 2 rfl ?_;refine ZS [_] [_] rfl rfl sz_3 rfl rfl rfl ?_;refine ZS [_] [_] rfl rfl sz_3 rfl rfl rfl ?_;refine GT_nil ?_
      have hst : stK r k = true := (by cases e2 : stK r k; (rw [e2] at q2; exact absurd q2 (by decide)); rfl)
      have hst2 : 1 ≤ k ∧ r ≤ 31830 := (by simpa [stK] using hst)
      have hk1 : k = 1 := (by by_cases e3 : 1 < k; exact absurd hst2.2 (hq1 e3); omega)
      subst hk1
      rw [if_pos hst]
      refine GE_leave (some .ret) rfl (fun w hw => ⟨_, ⟨_, rfl, .inr ⟨rfl, hst2.2, rfl⟩⟩, ?_⟩)
      exact hw.hs (HS.cons rfl (HS.cons rfl (HS.cons rfl (HS.last (I := G)))))
    · refine GE_skip ?_;refine GE_inBlock ?_;refine GE_leave none rfl (fun w hw => ⟨_, ⟨_, rfl, .inl ⟨rfl, fun q3 => ?_, rfl⟩⟩, ?_⟩)
      · by_cases e1 : r ≤ 31830
        · have : stK r k = true := by simp [stK, e1]; omega
          rw [if_pos this] at q2; exact absurd (by decide) q2
        · exact e1
      exact hw.hs (HS.cons rfl (HS.cons rfl (HS.cons rfl (HS.cons rfl (HS.last (I := G))))))
  · subst hr0
    rcases hQ' with ⟨hq3, rfl⟩ | ⟨hle, rfl⟩
    case inr =>
      refine ⟨_, [(b2, blk [I 1] 3), (b3, blk [I 3] 3)], ?_, hw'.hs (HS.cons rfl (HS.cons rfl (HS.cons rfl (HS.cons rfl HS.nil)))), ?_⟩
      · intro h; cases h
      refine GE_D (D' := dq [q]) ?_ rfl
      refine GE_retq Tryz.func117 ⟨_, _, ⟨_, rfl, fun w m => run_loadVar_one ag_3 (CellAt.item rfl w m)⟩, ⟨_, rfl, fun w m => run_loadVar_one ag_3 (CellAt.item rfl w m)⟩, rfl⟩ (fun w hw => ?_)
      rw [if_pos hle, if_pos hle]; exact ⟨rfl, hw.nil⟩
    refine ⟨_, [(b2, blk [I 0] 3), (b3, blk [I 0] 3)], ?_, hw'.hs (HS.cons rfl (HS.cons rfl (HS.cons rfl (HS.cons rfl HS.nil)))), ?_⟩
    · intro h; cases h
    refine GE_D (D' := dq [q]) ?_ rfl
    refine GE_inBlock ?_;refine Zq [2, 3] 2 [0, 1] rfl rfl ?_;refine ZS [_] [_] rfl rfl sz_3 rfl rfl rfl ?_;refine ZS [_] [_] rfl rfl sz_3 rfl rfl rfl ?_;refine GT_nil ?_;refine GE_retq Tryz.func117 ⟨_, _, ⟨_, rfl, fun w m => run_loadVar_one ag_3 (CellAt.item rfl w m)⟩, ⟨_, rfl, fun w m => run_loadVar_one ag_3 (CellAt.item rfl w m)⟩, rfl⟩ (fun w hw => ⟨?_, hw.nil⟩)
    rw [if_neg (hq3 (by decide)), if_neg (hq3 (by decide))]
end
end Go.Proofs.YtncleikbggjmjaaGreatDoor.Side
/- Folds, and the cells of a folded sheet, walked. -/
namespace Go.Proofs.YtncleikbggjmjaaGreatDoor.Slv
open Go.Sx Go.Proofs Go.RowKit
open Side (eN eN_len eN_one getD_memT)
section
variable {w : World} {A : Option Addr} {c fi : Nat} {cs : List Value}
end
end Go.Proofs.YtncleikbggjmjaaGreatDoor.Slv
/- What listening comes to, in plain Lean: numbers, plates, discs, causes. -/
namespace Go.Proofs.YtncleikbggjmjaaGreatDoor.Lis
open Go.Sx
def I64 (x : Int) : Prop := -9223372036854775808 ≤ x ∧ x ≤ 9223372036854775807
theorem I64.of {x : Int} (h : (Lit.int .i64 x).wf = true) : I64 x := by
  simp [Lit.wf, IntKind.min, IntKind.max, IntKind.signed, IntKind.bits] at h
  unfold I64; omega
theorem u8_of {x : Int} (h : (Lit.int .u8 x).wf = true) : 0 ≤ x ∧ x ≤ 255 := by
  simp [Lit.wf, IntKind.min, IntKind.max, IntKind.signed, IntKind.bits] at h
  omega
def betw (x lo hi : Int) : Bool := decide (lo ≤ x) && decide (x ≤ hi)
theorem betw_iff {x lo hi : Int} : betw x lo hi = true ↔ lo ≤ x ∧ x ≤ hi := by simp [betw]
def eI (x : Int) : List Value := [I x]
theorem eI_len (x : Int) : (eI x).length = 1 := rfl
theorem eI_one : ∀ x, ∀ u ∈ eI x, u.oneCell' = true := by intro x u hu; simp only [eI, List.mem_singleton] at hu; subst hu; rfl
def eB (x : Bool) : List Value := [.bool x]
theorem eB_len (x : Bool) : (eB x).length = 1 := rfl
theorem eB_one : ∀ x, ∀ u ∈ eB x, u.oneCell' = true := by intro x u hu; simp only [eB, List.mem_singleton] at hu; subst hu; rfl
structure Plt where
  kind : Int
  par : Int
  cut : Int
  area : Int
  thick : Int
  grown : Int
  ret : Bool
instance : Inhabited Plt := ⟨⟨0, 0, 0, 0, 0, 0, false⟩⟩
def ePlt (x : Plt) : List Value := [I x.kind, I x.par, I x.cut, I x.area, I x.thick, I x.grown, .bool x.ret]
theorem ePlt_len (x : Plt) : (ePlt x).length = 7 := rfl
def Plt.wf (x : Plt) : Prop := I64 x.kind ∧ I64 x.par
structure Dsc where
  ser : Int
  a : Int
  b : Int
  time : Int
  held : Int
  peak : Int
  good : Bool
instance : Inhabited Dsc := ⟨⟨0, 0, 0, 0, 0, 0, false⟩⟩
def eDsc (x : Dsc) : List Value := [I x.ser, I x.a, I x.b, I x.time, I x.held, I x.peak, .bool x.good]
theorem eDsc_len (x : Dsc) : (eDsc x).length = 7 := rfl
def Dsc.wf (x : Dsc) : Prop := I64 x.ser ∧ I64 x.a ∧ I64 x.b
structure Hrg where
  ser : Int
  yes : Bool
instance : Inhabited Hrg := ⟨⟨0, false⟩⟩
def eHrg (x : Hrg) : List Value := [I x.ser, .bool x.yes]
theorem eHrg_len (x : Hrg) : (eHrg x).length = 2 := rfl
theorem eHrg_one : ∀ x, ∀ u ∈ eHrg x, u.oneCell' = true := by intro x u hu; simp only [eHrg, List.mem_cons, List.not_mem_nil, or_false] at hu; rcases hu with rfl | rfl <;> rfl
def Hrg.wf (x : Hrg) : Prop := I64 x.ser
structure Cau where
  plate : Int
  frm : Int
  deriving DecidableEq
instance : Inhabited Cau := ⟨⟨0, 0⟩⟩
/-! ### which plates and discs are valid -/
def plOk (p : List Plt) (i : Nat) : Bool :=
  (decide ((p.getD i default).kind = 0) && decide ((p.getD i default).par = -1)) ||
  (betw (p.getD i default).kind 1 3 && betw (p.getD i default).par 0 ((i : Int) - 1) && decide ((p.getD (p.getD i default).par.toNat default).kind + 1 = (p.getD i default).kind))
def PlOk (p : List Plt) : Prop := ∀ i, i < p.length → plOk p i = true
instance (p : List Plt) : Decidable (PlOk p) := inferInstanceAs (Decidable (∀ i, i < p.length → plOk p i = true))
def plCheck (p : List Plt) : Int := if 256 < p.length then 6 else if PlOk p then 0 else 2
def stamp (p : List Plt) (n : Int) : Bool := betw n 1 p.length && decide ((p.getD (n - 1).toNat default).kind = 3)
def prevS (d : List Dsc) (i : Nat) : Int := if i = 0 then -1 else (d.getD (i - 1) default).ser
def dsOk (p : List Plt) (d : List Dsc) (i : Nat) : Bool := decide (prevS d i < (d.getD i default).ser) && stamp p (d.getD i default).a && stamp p (d.getD i default).b
def DsOk (p : List Plt) (d : List Dsc) : Prop := ∀ i, i < d.length → dsOk p d i = true
instance (p : List Plt) (d : List Dsc) : Decidable (DsOk p d) := inferInstanceAs (Decidable (∀ i, i < d.length → dsOk p d i = true))
def dsCheck (p : List Plt) (d : List Dsc) : Int := if plCheck p = 0 then (if 200 < d.length then 6 else if DsOk p d then 0 else 2) else plCheck p
def beginE (p : List Plt) (d : List Dsc) (side : Int) : Int := if dsCheck p d = 0 then (if side = 0 ∨ side = 1 then 0 else 3) else dsCheck p d
structure Room (p : List Plt) (d : List Dsc) (side : Int) : Prop where
  pl : p.length ≤ 256
  plok : PlOk p
  dl : d.length ≤ 200
  dsok : DsOk p d
  side : side = 0 ∨ side = 1
theorem plCheck_zero {p : List Plt} : plCheck p = 0 ↔ p.length ≤ 256 ∧ PlOk p := by
  unfold plCheck
  split
  · constructor
    · intro h; cases h
    · intro h; omega
  · split
    · rename_i h1 h2; exact ⟨fun _ => ⟨by omega, h2⟩, fun _ => rfl⟩
    · rename_i h1 h2; exact ⟨fun h => (by cases h), fun h => absurd h.2 h2⟩
theorem dsCheck_zero {p : List Plt} {d : List Dsc} : dsCheck p d = 0 ↔ plCheck p = 0 ∧ d.length ≤ 200 ∧ DsOk p d := by
  unfold dsCheck
  split
  · rename_i h0
    split
    · constructor
      · intro h; cases h
      · intro h; omega
    · split
      · rename_i h1 h2; exact ⟨fun _ => ⟨h0, by omega, h2⟩, fun _ => rfl⟩
      · rename_i h1 h2; exact ⟨fun h => (by cases h), fun h => absurd h.2.2 h2⟩
  · rename_i h0; exact ⟨fun h => absurd h h0, fun h => absurd h.1 h0⟩
theorem beginE_zero {p : List Plt} {d : List Dsc} {side : Int} : beginE p d side = 0 ↔ Room p d side := by
  unfold beginE
  constructor
  · intro h
    split at h
    · rename_i h0
      obtain ⟨h1, h2, h3⟩ := dsCheck_zero.1 h0
      obtain ⟨h4, h5⟩ := plCheck_zero.1 h1
      split at h
      · rename_i h6; exact ⟨h4, h5, h2, h3, h6⟩
      · cases h
    · rename_i h0; exact absurd h h0
  · intro h
    rw [if_pos (dsCheck_zero.2 ⟨plCheck_zero.2 ⟨h.pl, h.plok⟩, h.dl, h.dsok⟩), if_pos h.side]
theorem Room.plate {p : List Plt} (h : PlOk p) {i : Nat} (hi : i < p.length) : -1 ≤ (p.getD i default).par ∧ (p.getD i default).par < i ∧ 0 ≤ (p.getD i default).kind ∧ (p.getD i default).kind ≤ 3 ∧ ((p.getD i default).kind = 0 → (p.getD i default).par = -1) ∧ ((p.getD i default).kind ≠ 0 → 0 ≤ (p.getD i default).par ∧ (p.getD (p.getD i default).par.toNat default).kind + 1 = (p.getD i default).kind) := by
  have := h i hi
  unfold plOk at this
  simp only [Bool.or_eq_true, Bool.and_eq_true, decide_eq_true_eq, betw_iff] at this
  omega
def ofS (x : Dsc) (side : Int) : Int := (if side = 0 then x.a else x.b) - 1
theorem ofS_in {p : List Plt} {d : List Dsc} {side : Int} (h : DsOk p d) {i : Nat} (hi : i < d.length) : 0 ≤ ofS (d.getD i default) side ∧ ofS (d.getD i default) side < p.length ∧ (p.getD (ofS (d.getD i default) side).toNat default).kind = 3 := by
  have := h i hi
  unfold dsOk stamp at this
  simp only [Bool.and_eq_true, decide_eq_true_eq, betw_iff] at this
  unfold ofS
  split <;> omega
def serS (d : List Dsc) : List Int := d.map Dsc.ser
def stmS (d : List Dsc) (side : Int) : List Int := d.map fun x => ofS x side
theorem serS_len (d : List Dsc) : (serS d).length = d.length := by simp [serS]
theorem stmS_len (d : List Dsc) (side : Int) : (stmS d side).length = d.length := by simp [stmS]
theorem serS_get {d : List Dsc} {i : Nat} (hi : i < d.length) : (serS d).getD i default = (d.getD i default).ser := by simp [serS, List.getD, hi]
theorem stmS_get {d : List Dsc} {side : Int} {i : Nat} (hi : i < d.length) : (stmS d side).getD i default = ofS (d.getD i default) side := by simp [stmS, List.getD, hi]
theorem ser_lt {p : List Plt} {d : List Dsc} (h : DsOk p d) : ∀ {i j : Nat}, i < j → j < d.length → (d.getD i default).ser < (d.getD j default).ser := by
  intro i j hij
  induction j with
  | zero => omega
  | succ j ih =>
    intro hj
    have h1 := h (j + 1) hj
    unfold dsOk prevS at h1
    simp only [Bool.and_eq_true, decide_eq_true_eq] at h1
    rw [if_neg (by omega)] at h1
    have h2 := h1.1.1
    rw [show j + 1 - 1 = j by omega] at h2
    rcases Nat.lt_or_ge i j with h3 | h3
    · have := ih h3 (by omega); omega
    · obtain rfl : i = j := by omega
      exact h2
theorem ser_inj {p : List Plt} {d : List Dsc} (h : DsOk p d) {i j : Nat} (hi : i < d.length) (hj : j < d.length) (e : (d.getD i default).ser = (d.getD j default).ser) : i = j := by
  rcases Nat.lt_trichotomy i j with h1 | h1 | h1
  · have := ser_lt h h1 hj; omega
  · exact h1
  · have := ser_lt h h1 hi; omega
/-! ### causes -/
def climb (p : List Plt) (plate : Int) : Nat → Int → Int → Int × Int
  | 0, s, c => (s, c)
  | f + 1, s, c => if s ≠ plate ∧ 0 ≤ s then climb p plate f (p.getD s.toNat default).par s else (s, c)
theorem climb_stop {p : List Plt} {plate s c : Int} (h : ¬ (s ≠ plate ∧ 0 ≤ s)) : ∀ f, climb p plate f s c = (s, c)
  | 0 => rfl
  | _ + 1 => if_neg h
theorem climb_go {p : List Plt} {plate s c : Int} {f : Nat} (h : s ≠ plate ∧ 0 ≤ s) : climb p plate (f + 1) s c = climb p plate f (p.getD s.toNat default).par s := if_pos h
def under1 (p : List Plt) (plate frm s : Int) : Bool := decide ((climb p plate p.length s p.length).1 = plate) && decide (frm ≤ (climb p plate p.length s p.length).2)
def under (p : List Plt) (d : List Dsc) (side plate frm : Int) : List Bool := (stmS d side).map (under1 p plate frm)
theorem under_len (p : List Plt) (d : List Dsc) (side plate frm : Int) : (under p d side plate frm).length = d.length := by simp [under, stmS]
def fromK (l : List Bool) (k : Nat) : List Bool := List.replicate (min k l.length) false ++ l.drop k
theorem fromK_len (l : List Bool) (k : Nat) : (fromK l k).length = l.length := by simp [fromK]; omega
def alone (n k : Nat) : List Bool := (List.replicate n false).set k true
theorem alone_len (n k : Nat) : (alone n k).length = n := by simp [alone]
structure Sus where
  plate : Int
  frm : Int
  has : List Bool
  deriving DecidableEq
instance : Inhabited Sus := ⟨⟨0, 0, []⟩⟩
def stamp1 (p : List Plt) (d : List Dsc) (side : Int) (i k : Nat) : List Sus := if (under p d side i 0).getD k default then [⟨i, (d.getD k default).ser, fromK (under p d side i 0) k⟩] else []
def child1 (p : List Plt) (d : List Dsc) (side : Int) (i k : Nat) : List Sus := if i < k ∧ (p.getD k default).par = i then [⟨i, k, under p d side i k⟩] else []
def alone1 (d : List Dsc) (k : Nat) : Sus := ⟨-1, (d.getD k default).ser, alone d.length k⟩
def plate1 (p : List Plt) (d : List Dsc) (side : Int) (i : Nat) : List Sus := if (p.getD i default).kind = 3 then (List.range d.length).flatMap (stamp1 p d side i) else (List.range p.length).flatMap (child1 p d side i)
def causS (p : List Plt) (d : List Dsc) (side : Int) : List Sus := (List.range p.length).flatMap (plate1 p d side) ++ (List.range d.length).map (alone1 d)
end Go.Proofs.YtncleikbggjmjaaGreatDoor.Lis
