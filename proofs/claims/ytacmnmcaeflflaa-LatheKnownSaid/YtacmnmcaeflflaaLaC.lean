/- Works, valid, and LatheCuts, walked. -/
import Derived.Test.YtacmnmcaeflflaaLaB
namespace Go.Proofs.Ytacmnmcaeflflaa
open Go.Sx Go.Proofs

def exR : List Int := [980, 979, 930, 899, 880]
def exR2 : List Int := [980, 979, 930, 900, 880]
theorem ex_outR : outR exB exL = exR := by decide +kernel
theorem ex_outE : outE exB exL = 0 := by decide +kernel
theorem ex_cut : cutRes exB exL exR2 = (3, 5, 20) := by decide +kernel
theorem ex_lock : lockRes exB exL exR 20 = (830, 0) := by decide +kernel

set_option maxRecDepth 10000 in
theorem C_law05_Works {w : World} : Con0 Try.prog 16 [] w (.bool true) := by
  refine Ret_of (vs := []) hm none' Try.func16 rfl Try.ntmps16 rfl ?_
  dsimp only [slotsOf]
  refine GE_seq ?_
  refine GE_plain (.st 0 .nil) rfl ?_
  refine GT_st rfl rfl rfl rfl (V_assign rfl rfl) ?_
  refine GT_nil ?_
  refine GE_seq ?_
  refine GE_plain (.ld 0 [] (.st 1 (.st 2 (.st 3 (.ld 4 [] (.ld 5 [] (.st 6 .nil))))))) rfl ?_
  refine GT_call rfl rfl rfl rfl rfl rfl rfl rfl rn_37 (fun w hw => C_law05_Example) (fun _ _ => GR_nil) (fun y hy => ?_)
  refine GT_st rfl rfl rfl rfl (V_move rfl rfl) ?_
  refine GT_st rfl rfl rfl rfl (V_extract rfl rfl rfl) ?_
  refine GT_st rfl rfl rfl rfl (V_extract rfl rfl rfl) ?_
  refine GT_alloc rfl rfl rfl rfl rfl zc_23 (fun _ => GR_nil) (fun b1 => ?_)
  refine GT_store (vs := [_, _, _, _, _, _]) (l' := [_, _, _, _, _, _]) rfl rfl rfl rfl rfl rfl rfl sz_23 rfl rfl (Nat.le_of_ble_eq_true rfl) rfl (GR_nil) ?_
  refine GT_st rfl rfl rfl rfl (V_assign rfl rfl) ?_
  refine GT_nil ?_
  refine GE_seq ?_
  refine GE_slots (L' := [(1, _), (2, _)]) ⟨rfl, rfl, trivial⟩ ?_
  refine GE_plain (.st 0 (.st 1 (.ld 2 [] (.st 3 (.st 4 (.st 5 (.st 6 (.st 7 .nil)))))))) rfl ?_
  refine GT_st rfl rfl rfl rfl (V_loadN (vs := [_, _, _, _, _, _]) rfl rfl ag_23 sz_23 rfl (CellsAt.item rfl)) ?_
  refine GT_st rfl rfl rfl rfl (V_move rfl rfl) ?_
  refine GT_call rfl rfl rfl rfl rfl rfl rfl rfl rn_17 (fun w hw => C_lathe_Outermost (b := exB) (l := exL) (hy.rdH ePt_len hw)) (fun _ _ => GR_nil) (fun z hz => ?_)
  rw [ex_outR] at hz ⊢; rw [ex_outE]
  refine GT_st rfl rfl rfl rfl (V_move rfl rfl) ?_
  refine GT_st rfl rfl rfl rfl (V_extract rfl rfl rfl) ?_
  refine GT_st rfl rfl rfl rfl (V_extract rfl rfl rfl) ?_
  refine GT_st rfl rfl rfl rfl (V_assign rfl rfl) ?_
  refine GT_st rfl rfl rfl rfl (V_assign rfl rfl) ?_
  refine GT_nil ?_
  refine GE_seq ?_
  refine GE_slots (L' := [(1, _), (2, _), (3, _), (4, _)]) ⟨rfl, rfl, rfl, rfl, trivial⟩ ?_
  refine GE_plain (.st 0 (.st 1 (.ld 2 [] (.ld 3 [] (.st 4 (.st 5 (.st 6 (.st 7 (.st 8 (.st 9 (.st 10 .nil))))))))))) rfl ?_
  refine GT_st rfl rfl rfl rfl (V_loadN (vs := [_, _, _, _, _, _]) rfl rfl ag_23 sz_23 rfl (CellsAt.item rfl)) ?_
  refine GT_st rfl rfl rfl rfl (V_move rfl rfl) ?_
  refine GT_buildSlice (z := [_, _, _, _, _]) rfl rfl rfl rfl rfl Try.underlying25 zc_2 sz_2 (by decide) rfl rfl (fun _ => GR_nil) (fun b23 => ?_)
  refine GT_call0 rfl rfl rfl rfl rfl rfl rfl rfl rn_19 (fun w hw => C_lathe_CheckCut (b := exB) (l := exL) (r := exR2) (hy.rdH ePt_len hw) (RdL.own' hw eI_len) (by decide)) (GR_nil) ?_
  rw [ex_cut]
  refine GT_st rfl rfl rfl rfl (V_move rfl rfl) ?_
  refine GT_st rfl rfl rfl rfl (V_extract rfl rfl rfl) ?_
  refine GT_st rfl rfl rfl rfl (V_extract rfl rfl rfl) ?_
  refine GT_st rfl rfl rfl rfl (V_extract rfl rfl rfl) ?_
  refine GT_st rfl rfl rfl rfl (V_assign rfl rfl) ?_
  refine GT_st rfl rfl rfl rfl (V_assign rfl rfl) ?_
  refine GT_st rfl rfl rfl rfl (V_assign rfl rfl) ?_
  refine GT_nil ?_
  refine GE_seq ?_
  refine GE_slots (L' := [(1, _), (2, _), (3, _), (4, _), (5, _), (6, _), (7, _)]) ⟨rfl, rfl, rfl, rfl, rfl, rfl, rfl, trivial⟩ ?_
  refine GE_plain (.st 0 (.st 1 (.ld 2 [] (.ld 3 [] (.st 4 (.st 5 (.st 6 (.st 7 (.st 8 .nil))))))))) rfl ?_
  refine GT_st rfl rfl rfl rfl (V_loadN (vs := [_, _, _, _, _, _]) rfl rfl ag_23 sz_23 rfl (CellsAt.item rfl)) ?_
  refine GT_st rfl rfl rfl rfl (V_move rfl rfl) ?_
  refine GT_buildSlice (z := [_, _, _, _, _]) rfl rfl rfl rfl rfl Try.underlying25 zc_2 sz_2 (by decide) rfl rfl (fun _ => GR_nil) (fun b31 => ?_)
  refine GT_call0 rfl rfl rfl rfl rfl rfl rfl rfl rn_25 (fun w hw => C_lathe_Locked (b := exB) (l := exL) (r := exR) (h := 20) (hy.rdH ePt_len hw) (RdL.own' hw eI_len) (by decide)) (GR_nil) ?_
  rw [ex_lock]
  refine GT_st rfl rfl rfl rfl (V_move rfl rfl) ?_
  refine GT_st rfl rfl rfl rfl (V_extract rfl rfl rfl) ?_
  refine GT_st rfl rfl rfl rfl (V_extract rfl rfl rfl) ?_
  refine GT_st rfl rfl rfl rfl (V_assign rfl rfl) ?_
  refine GT_st rfl rfl rfl rfl (V_assign rfl rfl) ?_
  refine GT_nil ?_
  refine GE_seq ?_
  refine GE_slots (L' := [(3, _), (4, _), (5, _), (6, _), (7, _), (8, _), (9, _)]) ⟨rfl, rfl, rfl, rfl, rfl, rfl, rfl, trivial⟩ ?_
  refine GE_plain (.st 0 (.st 1 (.st 2 (.st 3 (.st 4 (.st 5 (.st 6 (.st 7 (.st 8 (.st 9 (.ld 10 [] (.ld 11 [] (.st 12 (.st 13 (.st 14 (.st 15 (.st 16 (.st 17 (.st 18 (.st 19 (.st 20 (.st 21 (.st 22 (.st 23 (.st 24 (.st 25 .nil)))))))))))))))))))))))))) rfl ?_
  refine GT_st rfl rfl rfl rfl (V_move rfl rfl) ?_
  refine GT_st rfl rfl rfl rfl (V_move rfl rfl) ?_
  refine GT_st rfl rfl rfl rfl (V_add rfl rfl rfl (wrap_i64 (by omega))) ?_
  refine GT_st rfl rfl rfl rfl (V_eql rfl rfl rfl) ?_
  refine GT_st rfl rfl rfl rfl (V_move rfl rfl) ?_
  first | refine GT_splitNot (d := 39) rfl (fun h1 => ?_) (fun h1 => ?_) | refine GT_split (d := 39) rfl (fun h1 => ?_) (fun h1 => ?_) | refine GT_splitNotB (d := 39) rfl (fun h1 => ?_) (fun h1 => ?_) | refine GT_splitB (d := 39) rfl (fun h1 => ?_) (fun h1 => ?_)
  · skip
    refine GT_st_g rfl rfl rfl rfl rfl rfl rfl (V_move rfl rfl) ?_
    refine GT_st_g rfl rfl rfl rfl rfl rfl rfl (V_eql rfl rfl rfl) ?_
    refine GT_st rfl rfl rfl rfl (V_pick_t rfl rfl rfl) ?_
    refine GT_st rfl rfl rfl rfl (V_move rfl rfl) ?_
    first | refine GT_splitNot (d := 43) rfl (fun h2 => ?_) (fun h2 => ?_) | refine GT_split (d := 43) rfl (fun h2 => ?_) (fun h2 => ?_) | refine GT_splitNotB (d := 43) rfl (fun h2 => ?_) (fun h2 => ?_) | refine GT_splitB (d := 43) rfl (fun h2 => ?_) (fun h2 => ?_)
    · skip
      refine GT_st_g rfl rfl rfl rfl rfl rfl rfl (V_move rfl rfl) ?_
      refine GT_buildSlice_g (z := [_, _, _, _, _]) rfl rfl rfl rfl rfl rfl rfl rfl Try.underlying25 zc_2 sz_2 (by decide) rfl rfl (fun _ => GR_nil) (fun b45 => ?_)
      refine GT_call0_g rfl rfl rfl rfl rfl rfl rfl rfl rfl rfl rfl rn_23 (fun w hw => C_law05_Radii (r1 := exR) (r2 := exR) (hz.rdH eI_len hw) (RdL.own' hw eI_len) rfl rfl (by decide)) (GR_nil) ?_
      refine GT_st rfl rfl rfl rfl (V_pick_t rfl rfl rfl) ?_
      refine GT_st rfl rfl rfl rfl (V_move rfl rfl) ?_
      first | refine GT_splitNot (d := 48) rfl (fun h3 => ?_) (fun h3 => ?_) | refine GT_split (d := 48) rfl (fun h3 => ?_) (fun h3 => ?_) | refine GT_splitNotB (d := 48) rfl (fun h3 => ?_) (fun h3 => ?_) | refine GT_splitB (d := 48) rfl (fun h3 => ?_) (fun h3 => ?_)
      · skip
        refine GT_st_g rfl rfl rfl rfl rfl rfl rfl (V_move rfl rfl) ?_
        refine GT_st_g rfl rfl rfl rfl rfl rfl rfl (V_eql rfl rfl rfl) ?_
        refine GT_st rfl rfl rfl rfl (V_pick_t rfl rfl rfl) ?_
        refine GT_st rfl rfl rfl rfl (V_move rfl rfl) ?_
        first | refine GT_splitNot (d := 52) rfl (fun h4 => ?_) (fun h4 => ?_) | refine GT_split (d := 52) rfl (fun h4 => ?_) (fun h4 => ?_) | refine GT_splitNotB (d := 52) rfl (fun h4 => ?_) (fun h4 => ?_) | refine GT_splitB (d := 52) rfl (fun h4 => ?_) (fun h4 => ?_)
        · skip
          refine GT_st_g rfl rfl rfl rfl rfl rfl rfl (V_move rfl rfl) ?_
          refine GT_st_g rfl rfl rfl rfl rfl rfl rfl (V_eql rfl rfl rfl) ?_
          refine GT_st rfl rfl rfl rfl (V_pick_t rfl rfl rfl) ?_
          refine GT_st rfl rfl rfl rfl (V_move rfl rfl) ?_
          first | refine GT_splitNot (d := 56) rfl (fun h5 => ?_) (fun h5 => ?_) | refine GT_split (d := 56) rfl (fun h5 => ?_) (fun h5 => ?_) | refine GT_splitNotB (d := 56) rfl (fun h5 => ?_) (fun h5 => ?_) | refine GT_splitB (d := 56) rfl (fun h5 => ?_) (fun h5 => ?_)
          · skip
            refine GT_st_g rfl rfl rfl rfl rfl rfl rfl (V_move rfl rfl) ?_
            refine GT_st_g rfl rfl rfl rfl rfl rfl rfl (V_eql rfl rfl rfl) ?_
            refine GT_st rfl rfl rfl rfl (V_pick_t rfl rfl rfl) ?_
            refine GT_st rfl rfl rfl rfl (V_assign rfl rfl) ?_
            refine GT_nil ?_
            refine GE_ret Try.func16 rfl (fun w hw => ⟨?_, hw.nil⟩)
            first | rfl | exact absurd (by decide) h1 | exact absurd (by decide) h2 | exact absurd (by decide) h3 | exact absurd (by decide) h4 | exact absurd (by decide) h5 | exact absurd (by decide) h6
          · skip
            refine GT_skip rfl rfl rfl rfl rfl (by decide) rfl rfl ?_
            refine GT_skip rfl rfl rfl rfl rfl (by decide) rfl rfl ?_
            refine GT_st rfl rfl rfl rfl (V_pick_f rfl rfl rfl) ?_
            refine GT_st rfl rfl rfl rfl (V_assign rfl rfl) ?_
            refine GT_nil ?_
            refine GE_ret Try.func16 rfl (fun w hw => ⟨?_, hw.nil⟩)
            first | rfl | exact absurd (by decide) h1 | exact absurd (by decide) h2 | exact absurd (by decide) h3 | exact absurd (by decide) h4 | exact absurd (by decide) h5 | exact absurd (by decide) h6
        · skip
          refine GT_skip rfl rfl rfl rfl rfl (by decide) rfl rfl ?_
          refine GT_skip rfl rfl rfl rfl rfl (by decide) rfl rfl ?_
          refine GT_st rfl rfl rfl rfl (V_pick_f rfl rfl rfl) ?_
          refine GT_st rfl rfl rfl rfl (V_move rfl rfl) ?_
          refine GT_skip rfl rfl rfl rfl rfl (by decide) rfl rfl ?_
          refine GT_skip rfl rfl rfl rfl rfl (by decide) rfl rfl ?_
          refine GT_st rfl rfl rfl rfl (V_pick_f rfl rfl rfl) ?_
          refine GT_st rfl rfl rfl rfl (V_assign rfl rfl) ?_
          refine GT_nil ?_
          refine GE_ret Try.func16 rfl (fun w hw => ⟨?_, hw.nil⟩)
          first | rfl | exact absurd (by decide) h1 | exact absurd (by decide) h2 | exact absurd (by decide) h3 | exact absurd (by decide) h4 | exact absurd (by decide) h5 | exact absurd (by decide) h6
      · skip
        refine GT_skip rfl rfl rfl rfl rfl (by decide) rfl rfl ?_
        refine GT_skip rfl rfl rfl rfl rfl (by decide) rfl rfl ?_
        refine GT_st rfl rfl rfl rfl (V_pick_f rfl rfl rfl) ?_
        refine GT_st rfl rfl rfl rfl (V_move rfl rfl) ?_
        refine GT_skip rfl rfl rfl rfl rfl (by decide) rfl rfl ?_
        refine GT_skip rfl rfl rfl rfl rfl (by decide) rfl rfl ?_
        refine GT_st rfl rfl rfl rfl (V_pick_f rfl rfl rfl) ?_
        refine GT_st rfl rfl rfl rfl (V_move rfl rfl) ?_
        refine GT_skip rfl rfl rfl rfl rfl (by decide) rfl rfl ?_
        refine GT_skip rfl rfl rfl rfl rfl (by decide) rfl rfl ?_
        refine GT_st rfl rfl rfl rfl (V_pick_f rfl rfl rfl) ?_
        refine GT_st rfl rfl rfl rfl (V_assign rfl rfl) ?_
        refine GT_nil ?_
        refine GE_ret Try.func16 rfl (fun w hw => ⟨?_, hw.nil⟩)
        first | rfl | exact absurd (by decide) h1 | exact absurd (by decide) h2 | exact absurd (by decide) h3 | exact absurd (by decide) h4 | exact absurd (by decide) h5 | exact absurd (by decide) h6
    · skip
      refine GT_skip rfl rfl rfl rfl rfl (by decide) rfl rfl ?_
      refine GT_skip_ld rfl rfl rfl rfl rfl (by decide) rfl rfl rfl (GR_nil) ?_
      refine GT_skip_ld rfl rfl rfl rfl rfl (by decide) rfl rfl rfl (GR_nil) ?_
      refine GT_st rfl rfl rfl rfl (V_pick_f rfl rfl rfl) ?_
      refine GT_st rfl rfl rfl rfl (V_move rfl rfl) ?_
      refine GT_skip rfl rfl rfl rfl rfl (by decide) rfl rfl ?_
      refine GT_skip rfl rfl rfl rfl rfl (by decide) rfl rfl ?_
      refine GT_st rfl rfl rfl rfl (V_pick_f rfl rfl rfl) ?_
      refine GT_st rfl rfl rfl rfl (V_move rfl rfl) ?_
      refine GT_skip rfl rfl rfl rfl rfl (by decide) rfl rfl ?_
      refine GT_skip rfl rfl rfl rfl rfl (by decide) rfl rfl ?_
      refine GT_st rfl rfl rfl rfl (V_pick_f rfl rfl rfl) ?_
      refine GT_st rfl rfl rfl rfl (V_move rfl rfl) ?_
      refine GT_skip rfl rfl rfl rfl rfl (by decide) rfl rfl ?_
      refine GT_skip rfl rfl rfl rfl rfl (by decide) rfl rfl ?_
      refine GT_st rfl rfl rfl rfl (V_pick_f rfl rfl rfl) ?_
      refine GT_st rfl rfl rfl rfl (V_assign rfl rfl) ?_
      refine GT_nil ?_
      refine GE_ret Try.func16 rfl (fun w hw => ⟨?_, hw.nil⟩)
      first | rfl | exact absurd (by decide) h1 | exact absurd (by decide) h2 | exact absurd (by decide) h3 | exact absurd (by decide) h4 | exact absurd (by decide) h5 | exact absurd (by decide) h6
  · skip
    refine GT_skip rfl rfl rfl rfl rfl (by decide) rfl rfl ?_
    refine GT_skip rfl rfl rfl rfl rfl (by decide) rfl rfl ?_
    refine GT_st rfl rfl rfl rfl (V_pick_f rfl rfl rfl) ?_
    refine GT_st rfl rfl rfl rfl (V_move rfl rfl) ?_
    refine GT_skip rfl rfl rfl rfl rfl (by decide) rfl rfl ?_
    refine GT_skip_ld rfl rfl rfl rfl rfl (by decide) rfl rfl rfl (GR_nil) ?_
    refine GT_skip_ld rfl rfl rfl rfl rfl (by decide) rfl rfl rfl (GR_nil) ?_
    refine GT_st rfl rfl rfl rfl (V_pick_f rfl rfl rfl) ?_
    refine GT_st rfl rfl rfl rfl (V_move rfl rfl) ?_
    refine GT_skip rfl rfl rfl rfl rfl (by decide) rfl rfl ?_
    refine GT_skip rfl rfl rfl rfl rfl (by decide) rfl rfl ?_
    refine GT_st rfl rfl rfl rfl (V_pick_f rfl rfl rfl) ?_
    refine GT_st rfl rfl rfl rfl (V_move rfl rfl) ?_
    refine GT_skip rfl rfl rfl rfl rfl (by decide) rfl rfl ?_
    refine GT_skip rfl rfl rfl rfl rfl (by decide) rfl rfl ?_
    refine GT_st rfl rfl rfl rfl (V_pick_f rfl rfl rfl) ?_
    refine GT_st rfl rfl rfl rfl (V_move rfl rfl) ?_
    refine GT_skip rfl rfl rfl rfl rfl (by decide) rfl rfl ?_
    refine GT_skip rfl rfl rfl rfl rfl (by decide) rfl rfl ?_
    refine GT_st rfl rfl rfl rfl (V_pick_f rfl rfl rfl) ?_
    refine GT_st rfl rfl rfl rfl (V_assign rfl rfl) ?_
    refine GT_nil ?_
    refine GE_ret Try.func16 rfl (fun w hw => ⟨?_, hw.nil⟩)
    first | rfl | exact absurd (by decide) h1 | exact absurd (by decide) h2 | exact absurd (by decide) h3 | exact absurd (by decide) h4 | exact absurd (by decide) h5 | exact absurd (by decide) h6
theorem C_law05_valid {b : Blank} {A : Option Addr} {l : List Pt} {c : Nat} {w : World} (hp : RdL w 2 ePt A l) : Con0 Try.prog 24 [b.val, .slice A l.length c] w (.bool (decide (l.length ≤ 40) && decide (both b l = 0))) := by
  have hb1 : b.ok = true → b.check = 0 ∧ both b l = ptsCheck l := fun hb => ⟨by unfold Blank.check; rw [hb]; rfl, both_ok hb⟩
  have hb2 : b.ok = false → b.check = 2 ∧ both b l = 2 := fun hb => ⟨Blank.check_of hb, both_bad hb⟩
  have hd : ∀ q : Bool, (l.length ≤ 40 ∧ both b l = 0 ↔ q = true) → Value.bool q = Value.bool (decide (l.length ≤ 40) && decide (both b l = 0)) := fun q hq => congrArg Value.bool (by rw [Bool.eq_iff_iff, ← hq]; simp)
  refine Ret_of (vs := [_, _]) hm none' Try.func24 rfl Try.ntmps24 rfl ?_
  dsimp only [slotsOf]
  refine GE_seq ?_
  refine GE_plain (.ld 0 [] (.st 1 .nil)) rfl ?_
  refine GT_box (z := [_, _, _, _, _, _]) rfl rfl rfl rfl rfl rfl rfl (fun _ => GR_nil) (fun b2 => ?_)
  refine GT_st rfl rfl rfl rfl (V_assign rfl rfl) ?_
  refine GT_nil ?_
  refine GE_seq ?_
  refine GE_plain (.st 0 (.st 1 (.st 2 (.st 3 (.st 4 (.ld 5 [] (.st 6 (.st 7 (.st 8 (.st 9 (.ld 10 [] (.st 11 (.st 12 (.st 13 .nil)))))))))))))) rfl ?_
  refine GT_st rfl rfl rfl rfl (V_move rfl rfl) ?_
  refine GT_st rfl rfl rfl rfl (V_len rfl Try.underlying24 rfl) ?_
  refine GT_st rfl rfl rfl rfl (V_leq rfl rfl rfl) ?_
  refine GT_st rfl rfl rfl rfl (V_move rfl rfl) ?_
  first | refine GT_splitNot (d := 8) rfl (fun h1 => ?_) (fun h1 => ?_) | refine GT_split (d := 8) rfl (fun h1 => ?_) (fun h1 => ?_) | refine GT_splitNotB (d := 8) rfl (fun h1 => ?_) (fun h1 => ?_) | refine GT_splitB (d := 8) rfl (fun h1 => ?_) (fun h1 => ?_)
  · skip
    refine GT_st_g rfl rfl rfl rfl rfl rfl rfl (V_loadN (vs := [_, _, _, _, _, _]) rfl rfl ag_23 sz_23 rfl (CellsAt.item rfl)) ?_
    refine GT_call0_g rfl rfl rfl rfl rfl rfl rfl rfl rfl rfl rfl rn_22 (fun w hw => C_ref05_Check (b := b)) (GR_nil) ?_
    refine GT_st_g rfl rfl rfl rfl rfl rfl rfl (V_eql rfl rfl rfl) ?_
    refine GT_st rfl rfl rfl rfl (V_pick_t rfl rfl rfl) ?_
    refine GT_st rfl rfl rfl rfl (V_move rfl rfl) ?_
    first | refine GT_splitNot (d := 13) rfl (fun h2 => ?_) (fun h2 => ?_) | refine GT_split (d := 13) rfl (fun h2 => ?_) (fun h2 => ?_) | refine GT_splitNotB (d := 13) rfl (fun h2 => ?_) (fun h2 => ?_) | refine GT_splitB (d := 13) rfl (fun h2 => ?_) (fun h2 => ?_)
    · skip
      refine GT_st_g rfl rfl rfl rfl rfl rfl rfl (V_move rfl rfl) ?_
      refine GT_call0_g rfl rfl rfl rfl rfl rfl rfl rfl rfl rfl rfl rn_51 (fun w hw => C_ref03_CheckPoints (hp.sh hw)) (GR_nil) ?_
      refine GT_st_g rfl rfl rfl rfl rfl rfl rfl (V_eql rfl rfl rfl) ?_
      refine GT_st rfl rfl rfl rfl (V_pick_t rfl rfl rfl) ?_
      refine GT_st rfl rfl rfl rfl (V_assign rfl rfl) ?_
      refine GT_nil ?_
      refine GE_ret Try.func24 rfl (fun w hw => ⟨?_, hw.nil⟩)
      refine hd _ ?_; cases hb : b.ok with | true => obtain ⟨e1, e2⟩ := hb1 hb; rw [e2]; (first | (simp; done) | (simp; omega)) | false => obtain ⟨e1, e2⟩ := hb2 hb; rw [e2]; (first | (simp; done) | (simp; omega))
    · skip
      refine GT_skip rfl rfl rfl rfl rfl (by decide) rfl rfl ?_
      refine GT_skip_ld rfl rfl rfl rfl rfl (by decide) rfl rfl rfl (GR_nil) ?_
      refine GT_skip rfl rfl rfl rfl rfl (by decide) rfl rfl ?_
      refine GT_st rfl rfl rfl rfl (V_pick_f rfl rfl rfl) ?_
      refine GT_st rfl rfl rfl rfl (V_assign rfl rfl) ?_
      refine GT_nil ?_
      refine GE_ret Try.func24 rfl (fun w hw => ⟨?_, hw.nil⟩)
      refine hd _ ?_; cases hb : b.ok with | true => obtain ⟨e1, e2⟩ := hb1 hb; rw [e2]; (first | (simp; done) | (simp; omega)) | false => obtain ⟨e1, e2⟩ := hb2 hb; rw [e2]; (first | (simp; done) | (simp; omega))
  · skip
    refine GT_skip rfl rfl rfl rfl rfl (by decide) rfl rfl ?_
    refine GT_skip_ld rfl rfl rfl rfl rfl (by decide) rfl rfl rfl (GR_nil) ?_
    refine GT_skip rfl rfl rfl rfl rfl (by decide) rfl rfl ?_
    refine GT_st rfl rfl rfl rfl (V_pick_f rfl rfl rfl) ?_
    refine GT_st rfl rfl rfl rfl (V_move rfl rfl) ?_
    refine GT_skip rfl rfl rfl rfl rfl (by decide) rfl rfl ?_
    refine GT_skip_ld rfl rfl rfl rfl rfl (by decide) rfl rfl rfl (GR_nil) ?_
    refine GT_skip rfl rfl rfl rfl rfl (by decide) rfl rfl ?_
    refine GT_st rfl rfl rfl rfl (V_pick_f rfl rfl rfl) ?_
    refine GT_st rfl rfl rfl rfl (V_assign rfl rfl) ?_
    refine GT_nil ?_
    refine GE_ret Try.func24 rfl (fun w hw => ⟨?_, hw.nil⟩)
    refine hd _ ?_; cases hb : b.ok with | true => obtain ⟨e1, e2⟩ := hb1 hb; rw [e2]; (first | (simp; done) | (simp; omega)) | false => obtain ⟨e1, e2⟩ := hb2 hb; rw [e2]; (first | (simp; done) | (simp; omega))
end Go.Proofs.Ytacmnmcaeflflaa
