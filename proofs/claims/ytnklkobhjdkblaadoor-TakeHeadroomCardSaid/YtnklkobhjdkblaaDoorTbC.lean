/- The sound of a sample; TakePlain; walked. -/
import Derived.Test.YtnklkobhjdkblaaDoorTbB
import Derived.Test.YtnklkobhjdkblaaDoorTbA
import Derived.Test.YtnklkobhjdkblaaDoorTaD
import Derived.Test.YtnklkobhjdkblaaDoorSxJ
namespace Go.Proofs.YtnklkobhjdkblaaDoor
open Go.Sx Go.Proofs Go.RowKit

section
variable {w : World} {A A2 B : Option Addr} {c c2 : Nat} {l : List Tk} {p : List Prt}
theorem C_SameN {a b : List Sam} {n m : Nat} (hn : a.length ≤ 1000000000000) (ha : RdL w 2 eSam A a) (hb : RdL w 2 eSam B b) (h1 : n = a.length) (h2 : m = b.length) : Con0 Tryd.prog 22 [.slice A n c, .slice B m c2] w (.bool (decide (a = b))) := by
  subst h1; subst h2; exact C_Same hn ha hb
theorem C_SameT {a b : List Sam} {n m : Nat} (h : a = b) (hn : a.length ≤ 1000000000000) (ha : RdL w 2 eSam A a) (hb : RdL w 2 eSam B b) (h1 : n = a.length) (h2 : m = b.length) : Con0 Tryd.prog 22 [.slice A n c, .slice B m c2] w (.bool true) := by
  have := C_SameN (c := c) (c2 := c2) hn ha hb h1 h2
  rw [decide_eq_true h] at this
  exact this
set_option maxRecDepth 10000 in
theorem C_Sound {i k : Int} (h : Tks w A l) (hp : RdL w 7 ePrt A2 p) : Con0 Tryd.prog 23 [.slice A l.length c, .slice A2 p.length c2, I i, I k] w (.tuple #[.agg #[I (sndV l p i k).l, I (sndV l p i k).r], I (sndE l p i k)]) := by
  by_cases hg : gErr l p = 0
  · have hP := gErr_zero.1 hg
    have hG : Gd l p := ⟨hP.tks, hP.most, hP.each⟩
    refine Ret_of (vs := [_, _, _, _]) hm none' Tryd.func23 rfl Tryd.ntmps23 rfl ?_
    dsimp only [slotsOf]
    refine GE_seq ?_
    refine GE_plain (.ld 0 [] (.st 1 .nil)) rfl ?_
    refine GT_alloc rfl rfl rfl rfl rfl zc_35 (fun _ => GR_nil) (fun b8 => ?_)
    refine GT_st rfl rfl rfl rfl (V_assign rfl rfl) ?_
    refine GT_nil ?_
    refine GE_seq ?_
    refine GE_plain (.st 0 (.st 1 (.ld 2 [] (.st 3 (.st 4 (.st 5 (.st 6 (.st 7 .nil)))))))) rfl ?_
    refine GT_st rfl rfl rfl rfl (V_move rfl rfl) ?_
    refine GT_st rfl rfl rfl rfl (V_move rfl rfl) ?_
    refine GT_call rfl rfl rfl rfl rfl rfl rfl rfl rn_46 (fun w hw => C_new_ok (h.sh hw) (hp.sh hw) hg) (fun _ _ => GR_nil) (fun y hy => ?_)
    refine GT_st rfl rfl rfl rfl (V_move rfl rfl) ?_
    refine GT_st rfl rfl rfl rfl (V_extract rfl rfl rfl) ?_
    refine GT_st rfl rfl rfl rfl (V_extract rfl rfl rfl) ?_
    refine GT_st rfl rfl rfl rfl (V_assign rfl rfl) ?_
    refine GT_st rfl rfl rfl rfl (V_assign rfl rfl) ?_
    refine GT_nil ?_
    refine GE_seq ?_
    refine GE_seq ?_
    refine GE_slots (L' := [(1, _), (2, _), (3, _), (8, _), (10, _), (11, _)]) ⟨rfl, rfl, rfl, rfl, rfl, rfl, trivial⟩ ?_
    refine GE_plain (.st 0 (.st 1 .nil)) rfl ?_
    refine GT_st rfl rfl rfl rfl (V_move rfl rfl) ?_
    refine GT_st rfl rfl rfl rfl (V_isF (V_neq rfl rfl rfl) (by decide)) ?_
    refine GT_nil ?_
    refine GE_cond_f rfl ?_
    refine GE_skip ?_
    refine GE_seq ?_
    refine GE_seq ?_
    refine GE_drawn (.st 0 (.st 1 (.st 2 (.st 3 (.st 4 (.st 5 (.st 6 (.st 7 (.st 8 (.st 9 (.st 10 (.st 11 (.st 12 (.st 13 (.st 14 (.st 15 (.st 16 (.st 17 (.st 18 (.st 19 (.st 20 (.st 21 (.st 22 (.st 23 (.st 24 (.st 25 (.st 26 (.st 27 (.st 28 (.st 29 (.st 30 (.st 31 (.st 32 .nil))))))))))))))))))))))))))))))))) [] (by decide +kernel) ?_
    refine GT_st rfl rfl rfl rfl (V_move rfl rfl) ?_
    refine GT_st rfl rfl rfl rfl (V_lss rfl rfl rfl) ?_
    refine GT_st rfl rfl rfl rfl (V_move rfl rfl) ?_
    first | refine GT_splitNot (d := 24) rfl (fun q1 => ?_) (fun q1 => ?_) | refine GT_split (d := 24) rfl (fun q1 => ?_) (fun q1 => ?_) | refine GT_splitNotB (d := 24) rfl (fun q1 => ?_) (fun q1 => ?_) | refine GT_splitB (d := 24) rfl (fun q1 => ?_) (fun q1 => ?_)
    · skip
      refine GT_skip rfl rfl rfl rfl rfl (by decide) rfl rfl ?_
      refine GT_skip rfl rfl rfl rfl rfl (by decide) rfl rfl ?_
      refine GT_skip rfl rfl rfl rfl rfl (by decide) rfl rfl ?_
      refine GT_skip rfl rfl rfl rfl rfl (by decide) rfl rfl ?_
      refine GT_st rfl rfl rfl rfl (V_pick_t rfl rfl rfl) ?_
      refine GT_st rfl rfl rfl rfl (V_move rfl rfl) ?_
      refine GT_skip rfl rfl rfl rfl rfl (by decide) rfl rfl ?_
      refine GT_skip rfl rfl rfl rfl rfl (by decide) rfl rfl ?_
      refine GT_st rfl rfl rfl rfl (V_pick_t rfl rfl rfl) ?_
      refine GT_st rfl rfl rfl rfl (V_move rfl rfl) ?_
      refine GT_skip rfl rfl rfl rfl rfl (by decide) rfl rfl ?_
      refine GT_skip rfl rfl rfl rfl rfl (by decide) rfl rfl ?_
      refine GT_skip rfl rfl rfl rfl rfl (by decide) rfl rfl ?_
      refine GT_skip rfl rfl rfl rfl rfl (by decide) rfl rfl ?_
      refine GT_skip rfl rfl rfl rfl rfl (by decide) rfl rfl ?_
      refine GT_skip rfl rfl rfl rfl rfl (by decide) rfl rfl ?_
      refine GT_skip rfl rfl rfl rfl rfl (by decide) rfl rfl ?_
      refine GT_skip rfl rfl rfl rfl rfl (by decide) rfl rfl ?_
      refine GT_skip rfl rfl rfl rfl rfl (by decide) rfl rfl ?_
      refine GT_skip rfl rfl rfl rfl rfl (by decide) rfl rfl ?_
      refine GT_skip rfl rfl rfl rfl rfl (by decide) rfl rfl ?_
      refine GT_skip rfl rfl rfl rfl rfl (by decide) rfl rfl ?_
      refine GT_skip rfl rfl rfl rfl rfl (by decide) rfl rfl ?_
      refine GT_skip rfl rfl rfl rfl rfl (by decide) rfl rfl ?_
      refine GT_skip rfl rfl rfl rfl rfl (by decide) rfl rfl ?_
      refine GT_skip rfl rfl rfl rfl rfl (by decide) rfl rfl ?_
      refine GT_skip rfl rfl rfl rfl rfl (by decide) rfl rfl ?_
      refine GT_skip rfl rfl rfl rfl rfl (by decide) rfl rfl ?_
      refine GT_skip rfl rfl rfl rfl rfl (by decide) rfl rfl ?_
      refine GT_st rfl rfl rfl rfl (V_pick_t rfl rfl rfl) ?_
      refine GT_nil ?_
      refine GE_cond_t rfl ?_
      refine GE_seq ?_
      refine GE_slots (L' := [(8, _)]) ⟨rfl, trivial⟩ ?_
      refine GE_plain (.st 0 (.ld 1 [] (.st 2 .nil))) rfl ?_
      refine GT_st rfl rfl rfl rfl (V_build (vs := [_, _]) rfl rfl zc_35 pl_35 sa_35 rfl) ?_
      refine GT_store (vs := [_, _]) (l' := [_, _]) rfl rfl rfl rfl rfl rfl rfl sz_35 rfl rfl (Nat.le_of_ble_eq_true rfl) rfl (GR_nil) ?_
      refine GT_st rfl rfl rfl rfl (V_assign rfl rfl) ?_
      refine GT_nil ?_
      refine GE_ret Tryd.func23 ⟨_, _, ⟨_, rfl, fun w m => run_loadVar_agg (vs := [_, _]) ag_35 sz_35 rfl (fun j v hj => CellsAt.item rfl j v hj w m)⟩, rfl, rfl⟩ (fun w hw => ⟨?_, hw.nil⟩)
      first | (have e : sndE l p i k = 3 := (by rw [sndE, if_pos hg, if_neg (by omega)]); rw [sndV, if_neg (by rw [e]; decide), e]) | (have e : sndE l p i k = 0 := (by rw [sndE, if_pos hg, if_pos (by omega)]); rw [sndV, if_pos e, e])
    · skip
      refine GT_st_g rfl rfl rfl rfl rfl rfl rfl (V_move rfl rfl) ?_
      refine GT_st_g rfl rfl rfl rfl rfl rfl rfl (V_move rfl rfl) ?_
      refine GT_st_g rfl rfl rfl rfl rfl rfl rfl (V_len rfl Tryd.underlying31 rfl) ?_
      refine GT_st_g rfl rfl rfl rfl rfl rfl rfl (V_geq rfl rfl rfl) ?_
      refine GT_st rfl rfl rfl rfl (V_pick_f rfl rfl rfl) ?_
      refine GT_st rfl rfl rfl rfl (V_move rfl rfl) ?_
      first | refine GT_splitNot (d := 30) rfl (fun q2 => ?_) (fun q2 => ?_) | refine GT_split (d := 30) rfl (fun q2 => ?_) (fun q2 => ?_) | refine GT_splitNotB (d := 30) rfl (fun q2 => ?_) (fun q2 => ?_) | refine GT_splitB (d := 30) rfl (fun q2 => ?_) (fun q2 => ?_)
      · skip
        refine GT_skip rfl rfl rfl rfl rfl (by decide) rfl rfl ?_
        refine GT_skip rfl rfl rfl rfl rfl (by decide) rfl rfl ?_
        refine GT_st rfl rfl rfl rfl (V_pick_t rfl rfl rfl) ?_
        refine GT_st rfl rfl rfl rfl (V_move rfl rfl) ?_
        refine GT_skip rfl rfl rfl rfl rfl (by decide) rfl rfl ?_
        refine GT_skip rfl rfl rfl rfl rfl (by decide) rfl rfl ?_
        refine GT_skip rfl rfl rfl rfl rfl (by decide) rfl rfl ?_
        refine GT_skip rfl rfl rfl rfl rfl (by decide) rfl rfl ?_
        refine GT_skip rfl rfl rfl rfl rfl (by decide) rfl rfl ?_
        refine GT_skip rfl rfl rfl rfl rfl (by decide) rfl rfl ?_
        refine GT_skip rfl rfl rfl rfl rfl (by decide) rfl rfl ?_
        refine GT_skip rfl rfl rfl rfl rfl (by decide) rfl rfl ?_
        refine GT_skip rfl rfl rfl rfl rfl (by decide) rfl rfl ?_
        refine GT_skip rfl rfl rfl rfl rfl (by decide) rfl rfl ?_
        refine GT_skip rfl rfl rfl rfl rfl (by decide) rfl rfl ?_
        refine GT_skip rfl rfl rfl rfl rfl (by decide) rfl rfl ?_
        refine GT_skip rfl rfl rfl rfl rfl (by decide) rfl rfl ?_
        refine GT_skip rfl rfl rfl rfl rfl (by decide) rfl rfl ?_
        refine GT_skip rfl rfl rfl rfl rfl (by decide) rfl rfl ?_
        refine GT_skip rfl rfl rfl rfl rfl (by decide) rfl rfl ?_
        refine GT_skip rfl rfl rfl rfl rfl (by decide) rfl rfl ?_
        refine GT_skip rfl rfl rfl rfl rfl (by decide) rfl rfl ?_
        refine GT_skip rfl rfl rfl rfl rfl (by decide) rfl rfl ?_
        refine GT_st rfl rfl rfl rfl (V_pick_t rfl rfl rfl) ?_
        refine GT_nil ?_
        refine GE_cond_t rfl ?_
        refine GE_seq ?_
        refine GE_slots (L' := [(8, _)]) ⟨rfl, trivial⟩ ?_
        refine GE_plain (.st 0 (.ld 1 [] (.st 2 .nil))) rfl ?_
        refine GT_st rfl rfl rfl rfl (V_build (vs := [_, _]) rfl rfl zc_35 pl_35 sa_35 rfl) ?_
        refine GT_store (vs := [_, _]) (l' := [_, _]) rfl rfl rfl rfl rfl rfl rfl sz_35 rfl rfl (Nat.le_of_ble_eq_true rfl) rfl (GR_nil) ?_
        refine GT_st rfl rfl rfl rfl (V_assign rfl rfl) ?_
        refine GT_nil ?_
        refine GE_ret Tryd.func23 ⟨_, _, ⟨_, rfl, fun w m => run_loadVar_agg (vs := [_, _]) ag_35 sz_35 rfl (fun j v hj => CellsAt.item rfl j v hj w m)⟩, rfl, rfl⟩ (fun w hw => ⟨?_, hw.nil⟩)
        first | (have e : sndE l p i k = 3 := (by rw [sndE, if_pos hg, if_neg (by omega)]); rw [sndV, if_neg (by rw [e]; decide), e]) | (have e : sndE l p i k = 0 := (by rw [sndE, if_pos hg, if_pos (by omega)]); rw [sndV, if_pos e, e])
      · have hip : i.toNat < p.length := (by omega); have hbb := gd_bgn hG hip; have hprt := gd_prt hG hip
        refine GT_st_g rfl rfl rfl rfl rfl rfl rfl (V_move rfl rfl) ?_
        refine GT_st_g rfl rfl rfl rfl rfl rfl rfl (V_lss rfl rfl rfl) ?_
        refine GT_st rfl rfl rfl rfl (V_pick_f rfl rfl rfl) ?_
        refine GT_st rfl rfl rfl rfl (V_move rfl rfl) ?_
        first | refine GT_splitNot (d := 34) rfl (fun q3 => ?_) (fun q3 => ?_) | refine GT_split (d := 34) rfl (fun q3 => ?_) (fun q3 => ?_) | refine GT_splitNotB (d := 34) rfl (fun q3 => ?_) (fun q3 => ?_) | refine GT_splitB (d := 34) rfl (fun q3 => ?_) (fun q3 => ?_)
        · skip
          refine GT_skip rfl rfl rfl rfl rfl (by decide) rfl rfl ?_
          refine GT_skip rfl rfl rfl rfl rfl (by decide) rfl rfl ?_
          refine GT_skip rfl rfl rfl rfl rfl (by decide) rfl rfl ?_
          refine GT_skip rfl rfl rfl rfl rfl (by decide) rfl rfl ?_
          refine GT_skip rfl rfl rfl rfl rfl (by decide) rfl rfl ?_
          refine GT_skip rfl rfl rfl rfl rfl (by decide) rfl rfl ?_
          refine GT_skip rfl rfl rfl rfl rfl (by decide) rfl rfl ?_
          refine GT_skip rfl rfl rfl rfl rfl (by decide) rfl rfl ?_
          refine GT_skip rfl rfl rfl rfl rfl (by decide) rfl rfl ?_
          refine GT_skip rfl rfl rfl rfl rfl (by decide) rfl rfl ?_
          refine GT_skip rfl rfl rfl rfl rfl (by decide) rfl rfl ?_
          refine GT_skip rfl rfl rfl rfl rfl (by decide) rfl rfl ?_
          refine GT_skip rfl rfl rfl rfl rfl (by decide) rfl rfl ?_
          refine GT_skip rfl rfl rfl rfl rfl (by decide) rfl rfl ?_
          refine GT_skip rfl rfl rfl rfl rfl (by decide) rfl rfl ?_
          refine GT_skip rfl rfl rfl rfl rfl (by decide) rfl rfl ?_
          refine GT_skip rfl rfl rfl rfl rfl (by decide) rfl rfl ?_
          refine GT_skip rfl rfl rfl rfl rfl (by decide) rfl rfl ?_
          refine GT_skip rfl rfl rfl rfl rfl (by decide) rfl rfl ?_
          refine GT_st rfl rfl rfl rfl (V_pick_t rfl rfl rfl) ?_
          refine GT_nil ?_
          refine GE_cond_t rfl ?_
          refine GE_seq ?_
          refine GE_slots (L' := [(8, _)]) ⟨rfl, trivial⟩ ?_
          refine GE_plain (.st 0 (.ld 1 [] (.st 2 .nil))) rfl ?_
          refine GT_st rfl rfl rfl rfl (V_build (vs := [_, _]) rfl rfl zc_35 pl_35 sa_35 rfl) ?_
          refine GT_store (vs := [_, _]) (l' := [_, _]) rfl rfl rfl rfl rfl rfl rfl sz_35 rfl rfl (Nat.le_of_ble_eq_true rfl) rfl (GR_nil) ?_
          refine GT_st rfl rfl rfl rfl (V_assign rfl rfl) ?_
          refine GT_nil ?_
          refine GE_ret Tryd.func23 ⟨_, _, ⟨_, rfl, fun w m => run_loadVar_agg (vs := [_, _]) ag_35 sz_35 rfl (fun j v hj => CellsAt.item rfl j v hj w m)⟩, rfl, rfl⟩ (fun w hw => ⟨?_, hw.nil⟩)
          first | (have e : sndE l p i k = 3 := (by rw [sndE, if_pos hg, if_neg (by omega)]); rw [sndV, if_neg (by rw [e]; decide), e]) | (have e : sndE l p i k = 0 := (by rw [sndE, if_pos hg, if_pos (by omega)]); rw [sndV, if_pos e, e])
        · skip
          refine GT_st_g rfl rfl rfl rfl rfl rfl rfl (V_move rfl rfl) ?_
          refine GT_st_g rfl rfl rfl rfl rfl rfl rfl (V_move rfl rfl) ?_
          first | refine GT_st_g rfl rfl rfl rfl rfl rfl rfl (V_nilCheck rfl rfl) ?_ | refine GT_st_g rfl rfl rfl rfl rfl rfl rfl (V_nilCheck_func rfl rfl) ?_ | refine GT_st_g rfl rfl rfl rfl rfl rfl rfl (V_nilCheck_yield rfl rfl) ?_
          first | refine GT_st_g rfl rfl rfl rfl rfl rfl rfl (V_field rfl rfl fo_81_1) ?_ | refine GT_st_g rfl rfl rfl rfl rfl rfl rfl (V_fieldA rfl rfl fo_81_1) ?_
          refine GT_st_g rfl rfl rfl rfl rfl rfl rfl (V_load rfl rfl ag_79 (CellAt.item rfl)) ?_
          refine GT_st_g rfl rfl rfl rfl rfl rfl rfl (V_move rfl rfl) ?_
          refine GT_st_g rfl rfl rfl rfl rfl rfl rfl (V_index rfl rfl rfl Tryd.underlying79 sz_83 (k := i.toNat) (by omega) hip (hy.isSome (k := i.toNat) (by rw [plcs_len]; exact hip))) ?_
          first | refine GT_st_g rfl rfl rfl rfl rfl rfl rfl (V_field rfl rfl fo_83_3) ?_ | refine GT_st_g rfl rfl rfl rfl rfl rfl rfl (V_fieldA rfl rfl fo_83_3) ?_
          refine GT_st_g rfl rfl rfl rfl rfl rfl rfl (V_load rfl rfl ag_3 (CellAt.own (j := 9) hy ePlc_len (by rw [plcs_len]; exact hip) (by rw [plcs_get hip]; exact (show (ePlc (plc p i.toNat))[9]? = some (I (en p i.toNat)) from rfl)))) ?_
          refine GT_st_g rfl rfl rfl rfl rfl rfl rfl (V_move rfl rfl) ?_
          first | refine GT_st_g rfl rfl rfl rfl rfl rfl rfl (V_nilCheck rfl rfl) ?_ | refine GT_st_g rfl rfl rfl rfl rfl rfl rfl (V_nilCheck_func rfl rfl) ?_ | refine GT_st_g rfl rfl rfl rfl rfl rfl rfl (V_nilCheck_yield rfl rfl) ?_
          first | refine GT_st_g rfl rfl rfl rfl rfl rfl rfl (V_field rfl rfl fo_81_1) ?_ | refine GT_st_g rfl rfl rfl rfl rfl rfl rfl (V_fieldA rfl rfl fo_81_1) ?_
          refine GT_st_g rfl rfl rfl rfl rfl rfl rfl (V_load rfl rfl ag_79 (CellAt.item rfl)) ?_
          refine GT_st_g rfl rfl rfl rfl rfl rfl rfl (V_move rfl rfl) ?_
          refine GT_st_g rfl rfl rfl rfl rfl rfl rfl (V_index rfl rfl rfl Tryd.underlying79 sz_83 (k := i.toNat) (by omega) hip (hy.isSome (k := i.toNat) (by rw [plcs_len]; exact hip))) ?_
          first | refine GT_st_g rfl rfl rfl rfl rfl rfl rfl (V_field rfl rfl fo_83_2) ?_ | refine GT_st_g rfl rfl rfl rfl rfl rfl rfl (V_fieldA rfl rfl fo_83_2) ?_
          refine GT_st_g rfl rfl rfl rfl rfl rfl rfl (V_load rfl rfl ag_3 (CellAt.own (j := 8) hy ePlc_len (by rw [plcs_len]; exact hip) (by rw [plcs_get hip]; exact (show (ePlc (plc p i.toNat))[8]? = some (I (bgn p i.toNat)) from rfl)))) ?_
          refine GT_st_g rfl rfl rfl rfl rfl rfl rfl (V_sub rfl rfl rfl ((wrap_i64 (by omega)).trans (show _ = lng (pt p i.toNat) by omega))) ?_
          refine GT_st_g rfl rfl rfl rfl rfl rfl rfl (V_geq rfl rfl rfl) ?_
          refine GT_st rfl rfl rfl rfl (V_pick_f rfl rfl rfl) ?_
          refine GT_nil ?_
          first | refine GE_condNot rfl (fun q4 => ?_) (fun q4 => ?_) | refine GE_cond rfl (fun q4 => ?_) (fun q4 => ?_) | refine GE_condNotB rfl (fun q4 => ?_) (fun q4 => ?_) | refine GE_condB rfl (fun q4 => ?_) (fun q4 => ?_)
          · skip
            refine GE_seq ?_
            refine GE_slots (L' := [(8, _)]) ⟨rfl, trivial⟩ ?_
            refine GE_plain (.st 0 (.ld 1 [] (.st 2 .nil))) rfl ?_
            refine GT_st rfl rfl rfl rfl (V_build (vs := [_, _]) rfl rfl zc_35 pl_35 sa_35 rfl) ?_
            refine GT_store (vs := [_, _]) (l' := [_, _]) rfl rfl rfl rfl rfl rfl rfl sz_35 rfl rfl (Nat.le_of_ble_eq_true rfl) rfl (GR_nil) ?_
            refine GT_st rfl rfl rfl rfl (V_assign rfl rfl) ?_
            refine GT_nil ?_
            refine GE_ret Tryd.func23 ⟨_, _, ⟨_, rfl, fun w m => run_loadVar_agg (vs := [_, _]) ag_35 sz_35 rfl (fun j v hj => CellsAt.item rfl j v hj w m)⟩, rfl, rfl⟩ (fun w hw => ⟨?_, hw.nil⟩)
            first | (have e : sndE l p i k = 3 := (by rw [sndE, if_pos hg, if_neg (by omega)]); rw [sndV, if_neg (by rw [e]; decide), e]) | (have e : sndE l p i k = 0 := (by rw [sndE, if_pos hg, if_pos (by omega)]); rw [sndV, if_pos e, e])
          · have hlev := (hP.each i.toNat hip).lev
            refine GE_skip ?_
            refine GE_seq ?_
            refine GE_slots (L' := [(1, _), (2, _), (3, _), (8, _), (10, _)]) ⟨rfl, rfl, rfl, rfl, rfl, trivial⟩ ?_
            refine GE_drawn (.st 0 (.st 1 (.st 2 (.st 3 (.st 4 (.st 5 (.st 6 (.st 7 (.st 8 (.st 9 (.st 10 (.st 11 (.st 12 (.st 13 (.ld 14 [] (.ld 15 [] (.st 16 .nil))))))))))))))))) [14, 15] (by decide +kernel) ?_
            refine GT_st rfl rfl rfl rfl (V_move rfl rfl) ?_
            refine GT_st rfl rfl rfl rfl (V_move rfl rfl) ?_
            first | refine GT_st rfl rfl rfl rfl (V_nilCheck rfl rfl) ?_ | refine GT_st rfl rfl rfl rfl (V_nilCheck_func rfl rfl) ?_ | refine GT_st rfl rfl rfl rfl (V_nilCheck_yield rfl rfl) ?_
            first | refine GT_st rfl rfl rfl rfl (V_field rfl rfl fo_81_1) ?_ | refine GT_st rfl rfl rfl rfl (V_fieldA rfl rfl fo_81_1) ?_
            refine GT_st rfl rfl rfl rfl (V_load rfl rfl ag_79 (CellAt.item rfl)) ?_
            refine GT_st rfl rfl rfl rfl (V_move rfl rfl) ?_
            refine GT_st rfl rfl rfl rfl (V_index rfl rfl rfl Tryd.underlying79 sz_83 (k := i.toNat) (by omega) hip (hy.isSome (k := i.toNat) (by rw [plcs_len]; exact hip))) ?_
            refine GT_st rfl rfl rfl rfl (V_loadN (vs := [_, _, _, _, _, _, _, _, _, _]) rfl rfl ag_83 sz_83 rfl (CellsAt.ownE hy ePlc_len (by rw [plcs_len]; exact hip) (by rw [plcs_get hip, ePlc_plc]))) ?_
            refine GT_st rfl rfl rfl rfl (V_move rfl rfl) ?_
            refine GT_st rfl rfl rfl rfl (V_move rfl rfl) ?_
            refine GT_st rfl rfl rfl rfl (V_move rfl rfl) ?_
            refine GT_st rfl rfl rfl rfl (V_index rfl rfl rfl Tryd.underlying31 sz_30 (k := i.toNat) (by omega) hip (hp.isSome hip)) ?_
            first | refine GT_st rfl rfl rfl rfl (V_field rfl rfl fo_30_6) ?_ | refine GT_st rfl rfl rfl rfl (V_fieldA rfl rfl fo_30_6) ?_
            refine GT_st rfl rfl rfl rfl (V_load rfl rfl ag_2 (hp.at1 noM hip (show _ = some (I (pt p i.toNat).lev) from rfl))) ?_
            refine GT_call0 rfl rfl rfl rfl rfl rfl rfl rfl rn_48 (fun w hw => C_sound (i := i.toNat) (k := k) (lev := (pt p i.toNat).lev) hip hP (by omega) (by omega) (by omega) (by omega) (h.sh hw) (BlkAt.of hw)) (GR_nil) ?_
            refine GT_store (vs := [_, _]) (l' := [_, _]) rfl rfl rfl rfl rfl rfl rfl sz_35 rfl rfl (Nat.le_of_ble_eq_true rfl) rfl (GR_nil) ?_
            refine GT_st rfl rfl rfl rfl (V_assign rfl rfl) ?_
            refine GT_nil ?_
            refine GE_ret Tryd.func23 ⟨_, _, ⟨_, rfl, fun w m => run_loadVar_agg (vs := [_, _]) ag_35 sz_35 rfl (fun j v hj => CellsAt.item rfl j v hj w m)⟩, rfl, rfl⟩ (fun w hw => ⟨?_, hw.nil⟩)
            first | (have e : sndE l p i k = 3 := (by rw [sndE, if_pos hg, if_neg (by omega)]); rw [sndV, if_neg (by rw [e]; decide), e]) | (have e : sndE l p i k = 0 := (by rw [sndE, if_pos hg, if_pos (by omega)]); rw [sndV, if_pos e, e])
  · have e : sndE l p i k = gErr l p := by rw [sndE, if_neg hg]
    refine Ret_of (vs := [_, _, _, _]) hm none' Tryd.func23 rfl Tryd.ntmps23 rfl ?_
    dsimp only [slotsOf]
    refine GE_seq ?_
    refine GE_plain (.ld 0 [] (.st 1 .nil)) rfl ?_
    refine GT_alloc rfl rfl rfl rfl rfl zc_35 (fun _ => GR_nil) (fun b8 => ?_)
    refine GT_st rfl rfl rfl rfl (V_assign rfl rfl) ?_
    refine GT_nil ?_
    refine GE_seq ?_
    refine GE_plain (.st 0 (.st 1 (.ld 2 [] (.st 3 (.st 4 (.st 5 (.st 6 (.st 7 .nil)))))))) rfl ?_
    refine GT_st rfl rfl rfl rfl (V_move rfl rfl) ?_
    refine GT_st rfl rfl rfl rfl (V_move rfl rfl) ?_
    refine GT_call0 rfl rfl rfl rfl rfl rfl rfl rfl rn_46 (fun w hw => C_new_bad (h.sh hw) (hp.sh hw) hg) (GR_nil) ?_
    refine GT_st rfl rfl rfl rfl (V_move rfl rfl) ?_
    refine GT_st rfl rfl rfl rfl (V_extract rfl rfl rfl) ?_
    refine GT_st rfl rfl rfl rfl (V_extract rfl rfl rfl) ?_
    refine GT_st rfl rfl rfl rfl (V_assign rfl rfl) ?_
    refine GT_st rfl rfl rfl rfl (V_assign rfl rfl) ?_
    refine GT_nil ?_
    refine GE_seq ?_
    refine GE_seq ?_
    refine GE_slots (L' := [(1, _), (2, _), (3, _), (8, _), (10, _), (11, _)]) ⟨rfl, rfl, rfl, rfl, rfl, rfl, trivial⟩ ?_
    refine GE_plain (.st 0 (.st 1 .nil)) rfl ?_
    refine GT_st rfl rfl rfl rfl (V_move rfl rfl) ?_
    refine GT_st rfl rfl rfl rfl (V_isT (V_neq rfl rfl rfl) hg) ?_
    refine GT_nil ?_
    refine GE_cond_t rfl ?_
    refine GE_seq ?_
    refine GE_slots (L' := [(8, _), (11, _)]) ⟨rfl, rfl, trivial⟩ ?_
    refine GE_plain (.st 0 (.st 1 (.ld 2 [] (.st 3 .nil)))) rfl ?_
    refine GT_st rfl rfl rfl rfl (V_build (vs := [_, _]) rfl rfl zc_35 pl_35 sa_35 rfl) ?_
    refine GT_st rfl rfl rfl rfl (V_move rfl rfl) ?_
    refine GT_store (vs := [_, _]) (l' := [_, _]) rfl rfl rfl rfl rfl rfl rfl sz_35 rfl rfl (Nat.le_of_ble_eq_true rfl) rfl (GR_nil) ?_
    refine GT_st rfl rfl rfl rfl (V_assign rfl rfl) ?_
    refine GT_nil ?_
    refine GE_ret Tryd.func23 ⟨_, _, ⟨_, rfl, fun w m => run_loadVar_agg (vs := [_, _]) ag_35 sz_35 rfl (fun j v hj => CellsAt.item rfl j v hj w m)⟩, rfl, rfl⟩ (fun w hw => ⟨?_, hw.nil⟩)
    rw [sndV, if_neg (by rw [e]; exact hg), e]; rfl
theorem C_SoundOk {i k : Nat} (h : Tks w A l) (hp : RdL w 7 ePrt A2 p) (hg : ProgOk l p) (hi : i < p.length) (hk : (k : Int) < lng (pt p i)) : Con0 Tryd.prog 23 [.slice A l.length c, .slice A2 p.length c2, I i, I k] w (.tuple #[.agg #[I (snd l (pt p i) k (pt p i).lev).l, I (snd l (pt p i) k (pt p i).lev).r], I 0]) := by
  have h1 := C_Sound (c := c) (c2 := c2) (i := i) (k := k) h hp
  have e : sndE l p i k = 0 := by rw [sndE, if_pos (gErr_zero.2 hg), if_pos]; rw [Int.toNat_natCast]; omega
  rw [sndV, if_pos e, e, Int.toNat_natCast] at h1
  exact h1
theorem Tks.one {w0 : World} {H H1 I : Items} {b : Nat} {t : Tk} (hO : Own 2 27 eTk [t] (.slice (some ⟨b, 0, none⟩) 1 1) I) [HChunk I H H1] (m : SH w0 none' H w) (h : RdL w 2 eSam t.A t.data) (hw : t.wf) : Tks w (some ⟨b, 0, none⟩) [t] :=
  ⟨hO.rdH eTk_len m, fun s hs => by rw [List.mem_singleton] at hs; subst hs; exact ⟨h, hw⟩⟩
theorem C_SoundOne {t : Tk} {x : Prt} {lv : Int} (hlv : x.lev = lv) (h : Tks w A [t]) (hp : RdL w 7 ePrt A2 [x]) (hP : ProgOk [t] [x]) {k : Nat} (hk : (k : Int) < lng x) : Con0 Tryd.prog 23 [.slice A 1 c, .slice A2 1 c2, I 0, I k] w (.tuple #[.agg #[I (snd [t] x k lv).l, I (snd [t] x k lv).r], I 0]) := by
  subst hlv
  exact C_SoundOk (l := [t]) (p := [x]) (i := 0) (k := k) h hp hP (show 0 < 1 by decide) hk
set_option maxRecDepth 20000 in
set_option maxHeartbeats 4000000 in
theorem L_TakePlain {t : Tk} {x : Prt} (h : RdL w 2 eSam t.A t.data) (ht : t.wf) (_hx : x.wf) : Con0 Tryd.prog 5 [.agg #[.string t.name, .slice t.A t.data.length t.c], .agg #[I x.tk, I x.fr, I x.to, I x.gap, I x.inn, I x.out, I x.lev]] w (.bool true) := by
  refine Ret_of (vs := [_, _]) hm none' Tryd.func5 rfl Tryd.ntmps5 rfl ?_
  dsimp only [slotsOf]
  refine GE_seq ?_
  refine GE_plain (.ld 0 [] (.ld 1 [] (.st 2 .nil))) rfl ?_
  refine GT_box (z := [_, _]) rfl rfl rfl rfl rfl rfl rfl (fun _ => GR_nil) (fun b2 => ?_)
  refine GT_box (z := [_, _, _, _, _, _, _]) rfl rfl rfl rfl rfl rfl rfl (fun _ => GR_nil) (fun b3 => ?_)
  refine GT_st rfl rfl rfl rfl (V_assign rfl rfl) ?_
  refine GT_nil ?_
  refine GE_seq ?_
  refine GE_seq ?_
  refine GE_plain (.st 0 (.ld 1 [] (.ld 2 [] .nil))) rfl ?_
  refine GT_st rfl rfl rfl rfl (V_loadN (vs := [_, _]) rfl rfl ag_27 sz_27 rfl (CellsAt.item rfl)) ?_
  refine GT_buildSlice (z := [_, _]) rfl rfl rfl rfl rfl Tryd.underlying28 zc_27 sz_27 (by decide) rfl rfl (fun _ => GR_nil) (fun b20 => ?_)
  have ho1 : Own 2 27 eTk [t] (.slice (some ⟨b20, 0, none⟩) 1 1) [(b20, blk [.string t.name, .slice t.A t.data.length t.c] 27)] := Own.lit rfl rfl (by decide)
  refine GT_call0 rfl rfl rfl rfl rfl rfl rfl rfl rn_20 (fun w hw => C_great (l := [t]) (n := 0) (Tks.one ho1 hw (h.sh hw) ht)) (GR_nil) ?_
  refine GT_nil ?_
  first | refine GE_condNot rfl (fun q0 => ?_) (fun q0 => ?_) | refine GE_cond rfl (fun q0 => ?_) (fun q0 => ?_) | refine GE_condNotB rfl (fun q0 => ?_) (fun q0 => ?_) | refine GE_condB rfl (fun q0 => ?_) (fun q0 => ?_)
  · skip
    refine GE_seq ?_
    refine GE_slots (L' := []) trivial ?_
    refine GE_plain (.ld 0 [] (.st 1 .nil)) rfl ?_
    refine GT_call0 rfl rfl rfl rfl rfl rfl rfl rfl rn_16 (fun w hw => C_Works) (GR_nil) ?_
    refine GT_st rfl rfl rfl rfl (V_assign rfl rfl) ?_
    refine GT_nil ?_
    refine GE_ret Tryd.func5 rfl (fun w hw => ⟨?_, hw.nil⟩)
    rfl
  · skip
    refine GE_skip ?_
    refine GE_seq ?_
    refine GE_slots (L' := [(2, _), (3, _)]) ⟨rfl, rfl, trivial⟩ ?_
    refine GE_plain (.st 0 (.ld 1 [] (.st 2 (.ld 3 [] .nil)))) rfl ?_
    first | refine GT_st rfl rfl rfl rfl (V_field rfl rfl fo_30_0) ?_ | refine GT_st rfl rfl rfl rfl (V_fieldA rfl rfl fo_30_0) ?_
    refine GT_store (vs := [_]) (l' := [_, _, _, _, _, _, _]) rfl rfl rfl rfl rfl rfl rfl sz_3 rfl rfl (Nat.le_of_ble_eq_true rfl) rfl (GR_nil) ?_
    first | refine GT_st rfl rfl rfl rfl (V_field rfl rfl fo_30_3) ?_ | refine GT_st rfl rfl rfl rfl (V_fieldA rfl rfl fo_30_3) ?_
    refine GT_store (vs := [_]) (l' := [_, _, _, _, _, _, _]) rfl rfl rfl rfl rfl rfl rfl sz_3 rfl rfl (Nat.le_of_ble_eq_true rfl) rfl (GR_nil) ?_
    refine GT_nil ?_
    refine GE_seq ?_
    refine GE_plain (.st 0 (.ld 1 [] (.st 2 .nil))) rfl ?_
    refine GT_st rfl rfl rfl rfl (V_loadN (vs := [_, _]) rfl rfl ag_27 sz_27 rfl (CellsAt.item rfl)) ?_
    refine GT_buildSlice (z := [_, _]) rfl rfl rfl rfl rfl Tryd.underlying28 zc_27 sz_27 (by decide) rfl rfl (fun _ => GR_nil) (fun b26 => ?_)
    have ho2 : Own 2 27 eTk [t] (.slice (some ⟨b26, 0, none⟩) 1 1) [(b26, blk [.string t.name, .slice t.A t.data.length t.c] 27)] := Own.lit rfl rfl (by decide)
    refine GT_st rfl rfl rfl rfl (V_assign rfl rfl) ?_
    refine GT_nil ?_
    refine GE_seq ?_
    refine GE_seq ?_
    refine GE_slots (L' := [(2, _), (3, _), (5, _)]) ⟨rfl, rfl, rfl, trivial⟩ ?_
    refine GE_plain (.st 0 (.st 1 (.ld 2 [] (.ld 3 [] (.st 4 .nil))))) rfl ?_
    refine GT_st rfl rfl rfl rfl (V_move rfl rfl) ?_
    refine GT_st rfl rfl rfl rfl (V_loadN (vs := [_, _, _, _, _, _, _]) rfl rfl ag_30 sz_30 rfl (CellsAt.item rfl)) ?_
    refine GT_buildSlice (z := [_, _, _, _, _, _, _]) rfl rfl rfl rfl rfl Tryd.underlying31 zc_30 sz_30 (by decide) rfl rfl (fun _ => GR_nil) (fun b29 => ?_)
    have hp1 : Own 7 30 ePrt [⟨0, x.fr, x.to, 0, x.inn, x.out, x.lev⟩] (.slice (some ⟨b29, 0, none⟩) 1 1) [(b29, blk [I 0, I x.fr, I x.to, I 0, I x.inn, I x.out, I x.lev] 30)] := Own.lit rfl rfl (by decide)
    refine GT_call0 rfl rfl rfl rfl rfl rfl rfl rfl rn_21 (fun w hw => C_rCheckProgramme (l := [t]) (p := [⟨0, x.fr, x.to, 0, x.inn, x.out, x.lev⟩]) (Tks.one ho2 hw (h.sh hw) ht) (hp1.rdH ePrt_len hw)) (GR_nil) ?_
    refine GT_st rfl rfl rfl rfl (V_neq rfl rfl rfl) ?_
    refine GT_nil ?_
    first | refine GE_condNot rfl (fun q1 => ?_) (fun q1 => ?_) | refine GE_cond rfl (fun q1 => ?_) (fun q1 => ?_) | refine GE_condNotB rfl (fun q1 => ?_) (fun q1 => ?_) | refine GE_condB rfl (fun q1 => ?_) (fun q1 => ?_)
    · skip
      refine GE_seq ?_
      refine GE_slots (L' := []) trivial ?_
      refine GE_plain (.ld 0 [] (.st 1 .nil)) rfl ?_
      refine GT_call0 rfl rfl rfl rfl rfl rfl rfl rfl rn_16 (fun w hw => C_Works) (GR_nil) ?_
      refine GT_st rfl rfl rfl rfl (V_assign rfl rfl) ?_
      refine GT_nil ?_
      refine GE_ret Tryd.func5 rfl (fun w hw => ⟨?_, hw.nil⟩)
      rfl
    · have hP := gErr_zero.1 q1; have hT := hP.tks; have hk : PrtOk [t] ⟨0, x.fr, x.to, 0, x.inn, x.out, x.lev⟩ := hP.each 0 (show 0 < 1 by decide); have hk1 : PrtOk [t] ⟨0, x.fr, x.to, 0, 0, 0, 1000⟩ := ⟨hk.tk0, hk.tk1, hk.fr0, hk.frto, hk.to1, hk.gap, (show (0:Int) ≤ 0 ∧ (0:Int) ≤ 1000 by decide), (show (0:Int) ≤ 0 ∧ (0:Int) ≤ 1000 by decide), (show (0:Int) ≤ 1000 ∧ (1000:Int) ≤ 4000 by decide)⟩; have hk0 : PrtOk [t] ⟨0, x.fr, x.to, 0, 0, 0, 0⟩ := ⟨hk.tk0, hk.tk1, hk.fr0, hk.frto, hk.to1, hk.gap, (show (0:Int) ≤ 0 ∧ (0:Int) ≤ 1000 by decide), (show (0:Int) ≤ 0 ∧ (0:Int) ≤ 1000 by decide), (show (0:Int) ≤ 0 ∧ (0:Int) ≤ 4000 by decide)⟩; have hto : x.to ≤ (t.data.length : Int) := hk.to1; have hfr : 0 ≤ x.fr := hk.fr0; have hft : x.fr < x.to := hk.frto; obtain ⟨fn, hfn⟩ : ∃ fn : Nat, x.fr = fn := ⟨x.fr.toNat, by omega⟩; obtain ⟨tn, htn⟩ : ∃ tn : Nat, x.to = tn := ⟨x.to.toNat, by omega⟩; have hdl : t.data.length ≤ 4096 := (tErr_zero.1 (hT.each t (by simp))).1; have hwc := ht.2.1; have hlg : lng ⟨0, x.fr, x.to, 0, x.inn, x.out, x.lev⟩ = x.to - x.fr := rfl; have hlv := hk.lev; dsimp only at hlv
      refine GE_skip ?_
      refine GE_seq ?_
      refine GE_slots (L' := [(2, _), (3, _), (5, _)]) ⟨rfl, rfl, rfl, trivial⟩ ?_
      refine GE_plain (.st 0 (.ld 1 [] (.ld 2 [] .nil))) rfl ?_
      refine GT_st rfl rfl rfl rfl (V_loadN (vs := [_, _, _, _, _, _, _]) rfl rfl ag_30 sz_30 rfl (CellsAt.item rfl)) ?_
      refine GT_alloc rfl rfl rfl rfl rfl zc_30 (fun _ => GR_nil) (fun b6 => ?_)
      refine GT_store (vs := [_, _, _, _, _, _, _]) (l' := [_, _, _, _, _, _, _]) rfl rfl rfl rfl rfl rfl rfl sz_30 rfl rfl (Nat.le_of_ble_eq_true rfl) rfl (GR_nil) ?_
      refine GT_nil ?_
      refine GE_seq ?_
      refine GE_plain (.st 0 (.ld 1 [] (.st 2 (.ld 3 [] (.st 4 (.ld 5 [] .nil)))))) rfl ?_
      first | refine GT_st rfl rfl rfl rfl (V_field rfl rfl fo_30_4) ?_ | refine GT_st rfl rfl rfl rfl (V_fieldA rfl rfl fo_30_4) ?_
      refine GT_store (vs := [_]) (l' := [_, _, _, _, _, _, _]) rfl rfl rfl rfl rfl rfl rfl sz_3 rfl rfl (Nat.le_of_ble_eq_true rfl) rfl (GR_nil) ?_
      first | refine GT_st rfl rfl rfl rfl (V_field rfl rfl fo_30_5) ?_ | refine GT_st rfl rfl rfl rfl (V_fieldA rfl rfl fo_30_5) ?_
      refine GT_store (vs := [_]) (l' := [_, _, _, _, _, _, _]) rfl rfl rfl rfl rfl rfl rfl sz_3 rfl rfl (Nat.le_of_ble_eq_true rfl) rfl (GR_nil) ?_
      first | refine GT_st rfl rfl rfl rfl (V_field rfl rfl fo_30_6) ?_ | refine GT_st rfl rfl rfl rfl (V_fieldA rfl rfl fo_30_6) ?_
      refine GT_store (vs := [_]) (l' := [_, _, _, _, _, _, _]) rfl rfl rfl rfl rfl rfl rfl sz_2 rfl rfl (Nat.le_of_ble_eq_true rfl) rfl (GR_nil) ?_
      refine GT_nil ?_
      refine GE_seq ?_
      refine GE_slots (L' := [(2, _), (3, _), (5, _), (6, _)]) ⟨rfl, rfl, rfl, rfl, trivial⟩ ?_
      refine GE_plain (.st 0 (.st 1 (.ld 2 [] (.ld 3 [] (.st 4 (.st 5 (.st 6 (.st 7 (.st 8 .nil))))))))) rfl ?_
      refine GT_st rfl rfl rfl rfl (V_move rfl rfl) ?_
      refine GT_st rfl rfl rfl rfl (V_loadN (vs := [_, _, _, _, _, _, _]) rfl rfl ag_30 sz_30 rfl (CellsAt.item rfl)) ?_
      refine GT_buildSlice (z := [_, _, _, _, _, _, _]) rfl rfl rfl rfl rfl Tryd.underlying31 zc_30 sz_30 (by decide) rfl rfl (fun _ => GR_nil) (fun b40 => ?_)
      have hp2 : Own 7 30 ePrt [⟨0, x.fr, x.to, 0, 0, 0, 1000⟩] (.slice (some ⟨b40, 0, none⟩) 1 1) [(b40, blk [I 0, I x.fr, I x.to, I 0, I 0, I 0, I 1000] 30)] := Own.lit rfl rfl (by decide)
      refine GT_call rfl rfl rfl rfl rfl rfl rfl rfl rn_17 (fun w hw => C_RenderOk (l := [t]) (p := [⟨0, x.fr, x.to, 0, 0, 0, 1000⟩]) (Tks.one ho2 hw (h.sh hw) ht) (hp2.rdH ePrt_len hw) (one_err_plain hT hk1 rfl rfl rfl rfl rfl)) (fun _ _ => GR_nil) (fun r hr => ?_)
      refine GT_st rfl rfl rfl rfl (V_move rfl rfl) ?_
      refine GT_st rfl rfl rfl rfl (V_extract rfl rfl rfl) ?_
      refine GT_st rfl rfl rfl rfl (V_extract rfl rfl rfl) ?_
      refine GT_st rfl rfl rfl rfl (V_assign rfl rfl) ?_
      refine GT_st rfl rfl rfl rfl (V_assign rfl rfl) ?_
      refine GT_nil ?_
      refine GE_seq ?_
      refine GE_seq ?_
      refine GE_slots (L' := [(2, _), (3, _), (5, _), (6, _), (7, _), (8, _)]) ⟨rfl, rfl, rfl, rfl, rfl, rfl, trivial⟩ ?_
      refine GE_plain (.st 0 (.st 1 (.st 2 (.st 3 (.st 4 (.st 5 (.st 6 (.st 7 (.st 8 (.st 9 (.st 10 (.ld 11 [] (.st 12 (.st 13 .nil)))))))))))))) rfl ?_
      refine GT_st rfl rfl rfl rfl (V_move rfl rfl) ?_
      refine GT_st rfl rfl rfl rfl (V_isF (V_neq rfl rfl rfl) (fun q => q rfl)) ?_
      refine GT_st rfl rfl rfl rfl (V_move rfl rfl) ?_
      refine GT_st_g rfl rfl rfl rfl rfl rfl rfl (V_move rfl rfl) ?_
      first | refine GT_st_g rfl rfl rfl rfl rfl rfl rfl (V_field rfl rfl fo_27_1) ?_ | refine GT_st_g rfl rfl rfl rfl rfl rfl rfl (V_fieldA rfl rfl fo_27_1) ?_
      refine GT_st_g rfl rfl rfl rfl rfl rfl rfl (V_load rfl rfl ag_22 (CellAt.item rfl)) ?_
      first | refine GT_st_g rfl rfl rfl rfl rfl rfl rfl (V_field rfl rfl fo_30_1) ?_ | refine GT_st_g rfl rfl rfl rfl rfl rfl rfl (V_fieldA rfl rfl fo_30_1) ?_
      refine GT_st_g rfl rfl rfl rfl rfl rfl rfl (V_load rfl rfl ag_3 (CellAt.item rfl)) ?_
      first | refine GT_st_g rfl rfl rfl rfl rfl rfl rfl (V_field rfl rfl fo_30_2) ?_ | refine GT_st_g rfl rfl rfl rfl rfl rfl rfl (V_fieldA rfl rfl fo_30_2) ?_
      refine GT_st_g rfl rfl rfl rfl rfl rfl rfl (V_load rfl rfl ag_3 (CellAt.item rfl)) ?_
      refine GT_st_g rfl rfl rfl rfl rfl rfl rfl (V_sliceFT (lo := fn) (hi := tn) rfl rfl (lookI rfl hfn) (lookI rfl htn) Tryd.underlying22 sz_35 (by omega) (by omega)) ?_
      refine GT_call0_g rfl rfl rfl rfl rfl rfl rfl rfl rfl rfl rfl rn_22 (fun w hw => C_SameT (a := rend [t] [⟨0, x.fr, x.to, 0, 0, 0, 1000⟩]) (b := (t.data.drop fn).take (tn - fn)) (by rw [one_plain hk1 rfl rfl rfl rfl rfl]; dsimp only; rw [hfn, htn, Int.toNat_natCast, show ((tn : Int) - fn).toNat = tn - fn by omega]) (by rw [one_len rfl]; unfold lng; dsimp only; omega) (hr.rdH eSam_len hw) (((h.sh hw).drop fn ht.2.1).take (tn - fn)) rfl (by rw [List.length_take, List.length_drop]; omega)) (GR_nil) ?_
      first | refine GT_st_g rfl rfl rfl rfl rfl rfl rfl (V_not rfl rfl) ?_ | refine GT_st_g rfl rfl rfl rfl rfl rfl rfl (V_notB rfl rfl) ?_
      refine GT_st rfl rfl rfl rfl (V_pick_f rfl rfl rfl) ?_
      refine GT_nil ?_
      refine GE_cond_f rfl ?_
      refine GE_skip ?_
      refine GE_seq ?_
      refine GE_slots (L' := [(2, _), (3, _), (5, _), (6, _)]) ⟨rfl, rfl, rfl, rfl, trivial⟩ ?_
      refine GE_plain (.st 0 (.ld 1 [] .nil)) rfl ?_
      first | refine GT_st rfl rfl rfl rfl (V_field rfl rfl fo_30_6) ?_ | refine GT_st rfl rfl rfl rfl (V_fieldA rfl rfl fo_30_6) ?_
      refine GT_store (vs := [_]) (l' := [_, _, _, _, _, _, _]) rfl rfl rfl rfl rfl rfl rfl sz_2 rfl rfl (Nat.le_of_ble_eq_true rfl) rfl (GR_nil) ?_
      refine GT_nil ?_
      refine GE_seq ?_
      refine GE_plain (.st 0 (.st 1 (.ld 2 [] (.ld 3 [] (.st 4 (.st 5 (.st 6 (.st 7 (.st 8 .nil))))))))) rfl ?_
      refine GT_st rfl rfl rfl rfl (V_move rfl rfl) ?_
      refine GT_st rfl rfl rfl rfl (V_loadN (vs := [_, _, _, _, _, _, _]) rfl rfl ag_30 sz_30 rfl (CellsAt.item rfl)) ?_
      refine GT_buildSlice (z := [_, _, _, _, _, _, _]) rfl rfl rfl rfl rfl Tryd.underlying31 zc_30 sz_30 (by decide) rfl rfl (fun _ => GR_nil) (fun b62 => ?_)
      have hp3 : Own 7 30 ePrt [⟨0, x.fr, x.to, 0, 0, 0, 0⟩] (.slice (some ⟨b62, 0, none⟩) 1 1) [(b62, blk [I 0, I x.fr, I x.to, I 0, I 0, I 0, I 0] 30)] := Own.lit rfl rfl (by decide)
      refine GT_call rfl rfl rfl rfl rfl rfl rfl rfl rn_17 (fun w hw => C_RenderOk (l := [t]) (p := [⟨0, x.fr, x.to, 0, 0, 0, 0⟩]) (Tks.one ho2 hw (h.sh hw) ht) (hp3.rdH ePrt_len hw) (one_err_silent hT hk0 rfl rfl)) (fun _ _ => GR_nil) (fun r2 hr2 => ?_)
      refine GT_st rfl rfl rfl rfl (V_move rfl rfl) ?_
      refine GT_st rfl rfl rfl rfl (V_extract rfl rfl rfl) ?_
      refine GT_st rfl rfl rfl rfl (V_extract rfl rfl rfl) ?_
      refine GT_st rfl rfl rfl rfl (V_assign rfl rfl) ?_
      refine GT_st rfl rfl rfl rfl (V_assign rfl rfl) ?_
      refine GT_nil ?_
      refine GE_seq ?_
      refine GE_seq ?_
      refine GE_slots (L' := [(2, _), (3, _), (5, _), (7, _), (8, _)]) ⟨rfl, rfl, rfl, rfl, rfl, trivial⟩ ?_
      refine GE_plain (.st 0 (.st 1 (.st 2 (.st 3 (.st 4 (.st 5 (.st 6 (.st 7 (.st 8 (.ld 9 [] (.ld 10 [] (.st 11 (.st 12 .nil))))))))))))) rfl ?_
      refine GT_st rfl rfl rfl rfl (V_move rfl rfl) ?_
      refine GT_st rfl rfl rfl rfl (V_isF (V_neq rfl rfl rfl) (fun q => q rfl)) ?_
      refine GT_st rfl rfl rfl rfl (V_move rfl rfl) ?_
      refine GT_st_g rfl rfl rfl rfl rfl rfl rfl (V_move rfl rfl) ?_
      first | refine GT_st_g rfl rfl rfl rfl rfl rfl rfl (V_field rfl rfl fo_30_2) ?_ | refine GT_st_g rfl rfl rfl rfl rfl rfl rfl (V_fieldA rfl rfl fo_30_2) ?_
      refine GT_st_g rfl rfl rfl rfl rfl rfl rfl (V_load rfl rfl ag_3 (CellAt.item rfl)) ?_
      first | refine GT_st_g rfl rfl rfl rfl rfl rfl rfl (V_field rfl rfl fo_30_1) ?_ | refine GT_st_g rfl rfl rfl rfl rfl rfl rfl (V_fieldA rfl rfl fo_30_1) ?_
      refine GT_st_g rfl rfl rfl rfl rfl rfl rfl (V_load rfl rfl ag_3 (CellAt.item rfl)) ?_
      refine GT_st_g rfl rfl rfl rfl rfl rfl rfl (V_sub rfl rfl rfl (wrap_i64 (by omega))) ?_
      refine GT_makeSlice_g rfl rfl rfl rfl rfl rfl rfl rfl rfl rfl Tryd.underlying22 zc_35 sz_35 by_35 (nn := (x.to - x.fr).toNat) ⟨by omega, by omega, rfl⟩ ⟨by omega, by omega⟩ (fun _ => GR_nil) (fun b75 => ?_)
      have hz : Own 2 35 eSam (List.replicate (x.to - x.fr).toNat (⟨0, 0⟩ : Sam)) (.slice (some ⟨b75, 0, none⟩) (x.to - x.fr).toNat (x.to - x.fr).toNat) [(b75, blk ((List.replicate (x.to - x.fr).toNat [I 0, I 0]).flatten) 35)] := Own.made (x := (⟨0, 0⟩ : Sam)) rfl (by unfold maxLen; omega)
      refine GT_call0_g rfl rfl rfl rfl rfl rfl rfl rfl rfl rfl rfl rn_22 (fun w hw => C_SameT (a := rend [t] [⟨0, x.fr, x.to, 0, 0, 0, 0⟩]) (b := List.replicate (x.to - x.fr).toNat (⟨0, 0⟩ : Sam)) (one_silent rfl rfl) (by rw [one_len rfl]; unfold lng; dsimp only; omega) (hr2.rdH eSam_len hw) (hz.rdH eSam_len hw) rfl (by rw [List.length_replicate])) (GR_nil) ?_
      first | refine GT_st_g rfl rfl rfl rfl rfl rfl rfl (V_not rfl rfl) ?_ | refine GT_st_g rfl rfl rfl rfl rfl rfl rfl (V_notB rfl rfl) ?_
      refine GT_st rfl rfl rfl rfl (V_pick_f rfl rfl rfl) ?_
      refine GT_nil ?_
      refine GE_cond_f rfl ?_
      refine GE_skip ?_
      refine GE_seq ?_
      refine GE_slots (L' := [(2, _), (3, _), (5, _)]) ⟨rfl, rfl, rfl, trivial⟩ ?_
      refine GE_plain (.st 0 (.st 1 (.st 2 (.ld 3 [] (.ld 4 [] .nil))))) rfl ?_
      first | refine GT_st rfl rfl rfl rfl (V_field rfl rfl fo_27_0) ?_ | refine GT_st rfl rfl rfl rfl (V_fieldA rfl rfl fo_27_0) ?_
      refine GT_st rfl rfl rfl rfl (V_load rfl rfl ag_9 (CellAt.item rfl)) ?_
      refine GT_st rfl rfl rfl rfl (V_build (vs := [_, _]) rfl rfl zc_27 pl_27 sa_27 rfl) ?_
      refine GT_alloc rfl rfl rfl rfl rfl zc_27 (fun _ => GR_nil) (fun b9 => ?_)
      refine GT_store (vs := [_, _]) (l' := [_, _]) rfl rfl rfl rfl rfl rfl rfl sz_27 rfl rfl (Nat.le_of_ble_eq_true rfl) rfl (GR_nil) ?_
      refine GT_nil ?_
      refine GE_seq ?_
      refine GE_seq ?_
      refine GE_plain (.st 0 .nil) rfl ?_
      refine GT_st rfl rfl rfl rfl (V_assign rfl rfl) ?_
      refine GT_nil ?_
      refine GE_block ?_
      refine GE_to (GE_loop (ι := Nat × Option Addr × Nat × Items) (fun u => t.data.length - u.1) (fun u => [(2, ptr b2 0), (3, ptr b3 0), (5, .slice (some ⟨b26, 0, none⟩) 1 1), (9, ptr b9 0), (10, I u.1)]) (fun u => (b9, blk [.string t.name, .slice u.2.1 u.1 u.2.2.1] 27) :: (u.2.2.2 ++ [(b2, blk [.string t.name, .slice t.A t.data.length t.c] 27), (b3, blk [I 0, I x.fr, I x.to, I 0, I x.inn, I x.out, I x.lev] 30), (b26, blk [.string t.name, .slice t.A t.data.length t.c] 27)])) (fun u => u.1 ≤ t.data.length ∧ Own 2 35 eSam (List.replicate u.1 (t.data.getD 0 default)) (.slice u.2.1 u.1 u.2.2.1) u.2.2.2) ?_ (0, none, 0, []) ?_) ⟨rfl, rfl, rfl, rfl, rfl, trivial⟩ (HS.cons rfl (HS.cons rfl (HS.cons rfl (HS.cons rfl HS.nil))))
      · rintro ⟨k, A', c', I'⟩ ⟨hk', hO⟩ ih; dsimp only at hk' hO ih ⊢
        refine GE_seq ?_
        refine GE_seq ?_
        refine GE_plain (.st 0 (.st 1 (.st 2 (.st 3 (.st 4 .nil))))) rfl ?_
        refine GT_st rfl rfl rfl rfl (V_move rfl rfl) ?_
        first | refine GT_st rfl rfl rfl rfl (V_field rfl rfl fo_27_1) ?_ | refine GT_st rfl rfl rfl rfl (V_fieldA rfl rfl fo_27_1) ?_
        refine GT_st rfl rfl rfl rfl (V_load rfl rfl ag_22 (CellAt.item rfl)) ?_
        refine GT_st rfl rfl rfl rfl (V_len rfl Tryd.underlying22 rfl) ?_
        refine GT_st rfl rfl rfl rfl (V_lss rfl rfl rfl) ?_
        refine GT_nil ?_
        first | refine GE_condNot rfl (fun q2 => ?_) (fun q2 => ?_) | refine GE_cond rfl (fun q2 => ?_) (fun q2 => ?_) | refine GE_condNotB rfl (fun q2 => ?_) (fun q2 => ?_) | refine GE_condB rfl (fun q2 => ?_) (fun q2 => ?_)
        · have hkl : k < t.data.length := (by omega)
          refine GE_skip ?_
          refine GE_seq ?_
          refine GE_block ?_
          refine GE_slots (L' := [(2, _), (3, _), (5, _), (9, _), (10, _)]) ⟨rfl, rfl, rfl, rfl, rfl, trivial⟩ ?_
          refine GE_drawn (.st 0 (.st 1 (.st 2 (.st 3 (.st 4 (.st 5 (.ld 6 [0, 1] (.ld 7 [] (.st 8 (.ld 9 [] .nil)))))))))) [6, 7, 9] (by decide +kernel) ?_
          first | refine GT_st rfl rfl rfl rfl (V_field rfl rfl fo_27_1) ?_ | refine GT_st rfl rfl rfl rfl (V_fieldA rfl rfl fo_27_1) ?_
          refine GT_st rfl rfl rfl rfl (V_load rfl rfl ag_22 (CellAt.item rfl)) ?_
          first | refine GT_st rfl rfl rfl rfl (V_field rfl rfl fo_27_1) ?_ | refine GT_st rfl rfl rfl rfl (V_fieldA rfl rfl fo_27_1) ?_
          refine GT_st rfl rfl rfl rfl (V_load rfl rfl ag_22 (CellAt.item rfl)) ?_
          refine GT_st rfl rfl rfl rfl (V_index (k := 0) rfl rfl rfl Tryd.underlying22 sz_35 rfl (by omega) (h.isSome (k := 0) (by omega))) ?_
          refine GT_st rfl rfl rfl rfl (V_loadN (vs := [_, _]) rfl rfl ag_35 sz_35 rfl (h.ats noM (k := 0) (by omega))) ?_
          refine GT_buildSlice (z := [_, _]) rfl rfl rfl rfl rfl Tryd.underlying22 zc_35 sz_35 (by decide) rfl rfl (fun _ => GR_cons rfl rfl rfl rfl ((by first | exact V_field rfl rfl fo_27_1 | exact V_fieldA rfl rfl fo_27_1)) (GR_cons rfl rfl rfl rfl (V_load rfl rfl ag_22 (CellAt.item rfl)) (GR_nil))) (fun b95 => ?_)
          refine GT_append (enc := eSam) (m := [t.data.getD 0 default]) rfl rfl rfl rfl rfl rfl rfl hO (fun w m => RdL.own' m eSam_len) Tryd.underlying22 zc_35 sz_35 ⟨rfl, by decide⟩ by_35 ⟨by rw [List.length_replicate]; simp only [List.length_singleton]; omega, by rw [List.length_replicate]; simp only [List.length_singleton]; omega⟩ eSam_len eSam_one (fun _ _ _ _ => GR_nil) (fun A2' c2' I2' hO2 => ?_)
          rw [← List.replicate_succ', List.length_replicate] at hO2 ⊢
          first | refine GT_st rfl rfl rfl rfl (V_field rfl rfl fo_27_1) ?_ | refine GT_st rfl rfl rfl rfl (V_fieldA rfl rfl fo_27_1) ?_
          refine GT_store (vs := [_]) (l' := [_, _]) rfl rfl rfl rfl rfl rfl rfl sz_22 rfl rfl (Nat.le_of_ble_eq_true rfl) rfl (GR_nil) ?_
          refine GT_nil ?_
          refine GE_inBlock ?_
          refine GE_slots (L' := [(2, _), (3, _), (5, _), (9, _), (10, _)]) ⟨rfl, rfl, rfl, rfl, rfl, trivial⟩ ?_
          refine GE_plain (.st 0 (.st 1 (.ld 2 [] .nil))) rfl ?_
          refine GT_st rfl rfl rfl rfl (V_move rfl rfl) ?_
          refine GT_st rfl rfl rfl rfl (V_add rfl rfl rfl (wrap_i64 (by omega))) ?_
          refine GT_ldv rfl rfl rfl rfl rfl (V_assign rfl rfl) (GR_nil) ?_
          refine GT_nil ?_
          exact GE_to (ih (k + 1, A2', c2', I2') ⟨by dsimp only; omega, hO2⟩ (by dsimp only; omega)) ⟨rfl, rfl, rfl, rfl, rfl, trivial⟩ (HS.cons rfl (HS.chunk (HS.cons rfl (HS.cons rfl (HS.cons rfl HS.nil)))))
        · obtain rfl : k = t.data.length := (by omega)
          refine GE_exit rfl ?_
          refine GE_seq ?_
          refine GE_slots (L' := [(2, _), (3, _), (5, _), (9, _)]) ⟨rfl, rfl, rfl, rfl, trivial⟩ ?_
          refine GE_plain (.st 0 (.st 1 (.st 2 (.st 3 (.st 4 (.st 5 .nil)))))) rfl ?_
          first | refine GT_st rfl rfl rfl rfl (V_field rfl rfl fo_30_2) ?_ | refine GT_st rfl rfl rfl rfl (V_fieldA rfl rfl fo_30_2) ?_
          refine GT_st rfl rfl rfl rfl (V_load rfl rfl ag_3 (CellAt.item rfl)) ?_
          first | refine GT_st rfl rfl rfl rfl (V_field rfl rfl fo_30_1) ?_ | refine GT_st rfl rfl rfl rfl (V_fieldA rfl rfl fo_30_1) ?_
          refine GT_st rfl rfl rfl rfl (V_load rfl rfl ag_3 (CellAt.item rfl)) ?_
          refine GT_st rfl rfl rfl rfl (V_sub rfl rfl rfl (wrap_i64 (by omega))) ?_
          refine GT_st rfl rfl rfl rfl (V_assign rfl rfl) ?_
          refine GT_nil ?_
          refine GE_seq ?_
          refine GE_slots (L' := [(2, _), (3, _), (5, _), (9, _), (11, _)]) ⟨rfl, rfl, rfl, rfl, rfl, trivial⟩ ?_
          refine GE_plain (.st 0 .nil) rfl ?_
          refine GT_st rfl rfl rfl rfl (V_assign rfl rfl) ?_
          refine GT_nil ?_
          refine GE_seq ?_
          refine GE_plain (.st 0 .nil) rfl ?_
          refine GT_st rfl rfl rfl rfl (V_assign rfl rfl) ?_
          refine GT_nil ?_
          refine GE_seq ?_
          refine GE_seq ?_
          refine GE_plain (.st 0 .nil) rfl ?_
          refine GT_st rfl rfl rfl rfl (V_assign rfl rfl) ?_
          refine GT_nil ?_
          refine GE_block ?_
          refine GE_to (GE_loop (ι := Nat × Int × Bool) (fun u => (x.to - x.fr).toNat - u.1) (fun u => [(2, ptr b2 0), (3, ptr b3 0), (5, .slice (some ⟨b26, 0, none⟩) 1 1), (9, ptr b9 0), (11, I (x.to - x.fr)), (12, I u.2.1), (13, .bool u.2.2), (14, I u.1)]) (fun u => (b9, blk [.string t.name, .slice A' t.data.length c'] 27) :: (I' ++ [(b2, blk [.string t.name, .slice t.A t.data.length t.c] 27), (b3, blk [I 0, I x.fr, I x.to, I 0, I x.inn, I x.out, I x.lev] 30), (b26, blk [.string t.name, .slice t.A t.data.length t.c] 27)])) (fun u => (u.1 : Int) ≤ x.to - x.fr ∧ (u.1 = 0 → u.2.1 = 0) ∧ (0 < u.1 → u.2.1 = amt (ld (t.data.getD 0 default).l ⟨0, x.fr, x.to, 0, x.inn, x.out, x.lev⟩ ((u.1 : Int) - 1) x.lev)) ∧ (u.2.2 = true → ∃ j : Int, 1 ≤ j ∧ j < u.1 ∧ amt (ld (t.data.getD 0 default).l ⟨0, x.fr, x.to, 0, x.inn, x.out, x.lev⟩ j x.lev) < amt (ld (t.data.getD 0 default).l ⟨0, x.fr, x.to, 0, x.inn, x.out, x.lev⟩ (j - 1) x.lev))) ?_ (0, 0, false) ?_) ⟨rfl, rfl, rfl, rfl, rfl, rfl, rfl, rfl, trivial⟩ HS.all
          · rintro ⟨k, last, fl⟩ ⟨hkl, hl0, hl1, hfl⟩ ih2; dsimp only at hkl hl0 hl1 hfl ih2 ⊢
            refine GE_seq ?_
            refine GE_seq ?_
            refine GE_plain (.st 0 (.st 1 (.st 2 .nil))) rfl ?_
            refine GT_st rfl rfl rfl rfl (V_move rfl rfl) ?_
            refine GT_st rfl rfl rfl rfl (V_move rfl rfl) ?_
            refine GT_st rfl rfl rfl rfl (V_lss rfl rfl rfl) ?_
            refine GT_nil ?_
            first | refine GE_condNot rfl (fun q3 => ?_) (fun q3 => ?_) | refine GE_cond rfl (fun q3 => ?_) (fun q3 => ?_) | refine GE_condNotB rfl (fun q3 => ?_) (fun q3 => ?_) | refine GE_condB rfl (fun q3 => ?_) (fun q3 => ?_)
            · have hF := plF hT hk rfl (k := k) (by omega) (by rw [hlg]; omega); obtain ⟨f1, f2, f3, f4, f5, f6, f7, f8, f9⟩ := hF; dsimp only at f1 f2 f3 f4 f5 f6 f7 f8 f9; have f10 := f3; unfold Sam.bd at f10; have heu := same_snd (A := A') (c := c') hk rfl (k := k) (by omega) (by rw [hlg]; omega); dsimp only at heu; have hub := snd_bd (same_tks (A := A') (c := c') hT) (same_prt (A := A') (c := c') hk rfl) (k := k) (lev := x.lev) (by omega) (by rw [hlg]; omega) hlv.1 (by omega); unfold Sam.bd at hub; have hV0 := amt_nonneg (ld (t.data.getD 0 default).l ⟨0, x.fr, x.to, 0, x.inn, x.out, x.lev⟩ k x.lev)
              refine GE_skip ?_
              refine GE_seq ?_
              refine GE_block ?_
              refine GE_seq ?_
              refine GE_plain (.st 0 (.st 1 (.ld 2 [] (.st 3 (.ld 4 [] (.st 5 (.st 6 (.st 7 (.ld 8 [] (.ld 9 [] (.st 10 .nil))))))))))) rfl ?_
              refine GT_st rfl rfl rfl rfl (V_move rfl rfl) ?_
              refine GT_st rfl rfl rfl rfl (V_loadN (vs := [_, _, _, _, _, _, _]) rfl rfl ag_30 sz_30 rfl (CellsAt.item rfl)) ?_
              refine GT_buildSlice (z := [_, _, _, _, _, _, _]) rfl rfl rfl rfl rfl Tryd.underlying31 zc_30 sz_30 (by decide) rfl rfl (fun _ => GR_nil) (fun b111 => ?_)
              have hp4 : Own 7 30 ePrt [⟨0, x.fr, x.to, 0, x.inn, x.out, x.lev⟩] (.slice (some ⟨b111, 0, none⟩) 1 1) [(b111, blk [I 0, I x.fr, I x.to, I 0, I x.inn, I x.out, I x.lev] 30)] := Own.lit rfl rfl (by decide)
              refine GT_st rfl rfl rfl rfl (V_move rfl rfl) ?_
              refine GT_call0 rfl rfl rfl rfl rfl rfl rfl rfl rn_23 (fun w hw => C_SoundOne (t := t) (x := ⟨0, x.fr, x.to, 0, x.inn, x.out, x.lev⟩) (lv := x.lev) rfl (Tks.one ho2 hw (h.sh hw) ht) (hp4.rdH ePrt_len hw) hP (by rw [hlg]; omega)) (GR_nil) ?_
              refine GT_st rfl rfl rfl rfl (V_move rfl rfl) ?_
              refine GT_st rfl rfl rfl rfl (V_extract rfl rfl rfl) ?_
              refine GT_st rfl rfl rfl rfl (V_extract rfl rfl rfl) ?_
              refine GT_alloc rfl rfl rfl rfl rfl zc_35 (fun _ => GR_nil) (fun b15 => ?_)
              refine GT_store (vs := [_, _]) (l' := [_, _]) rfl rfl rfl rfl rfl rfl rfl sz_35 rfl rfl (Nat.le_of_ble_eq_true rfl) rfl (GR_nil) ?_
              refine GT_st rfl rfl rfl rfl (V_assign rfl rfl) ?_
              refine GT_nil ?_
              refine GE_seq ?_
              refine GE_slots (L' := [(2, _), (3, _), (5, _), (9, _), (11, _), (12, _), (13, _), (14, _), (15, _), (16, _)]) ⟨rfl, rfl, rfl, rfl, rfl, rfl, rfl, rfl, rfl, rfl, trivial⟩ ?_
              refine GE_plain (.st 0 (.st 1 (.st 2 (.st 3 (.st 4 (.st 5 (.st 6 (.st 7 (.ld 8 [] (.ld 9 [] .nil)))))))))) rfl ?_
              first | refine GT_st rfl rfl rfl rfl (V_field rfl rfl fo_27_1) ?_ | refine GT_st rfl rfl rfl rfl (V_fieldA rfl rfl fo_27_1) ?_
              refine GT_st rfl rfl rfl rfl (V_load rfl rfl ag_22 (CellAt.item rfl)) ?_
              first | refine GT_st rfl rfl rfl rfl (V_field rfl rfl fo_30_1) ?_ | refine GT_st rfl rfl rfl rfl (V_fieldA rfl rfl fo_30_1) ?_
              refine GT_st rfl rfl rfl rfl (V_load rfl rfl ag_3 (CellAt.item rfl)) ?_
              refine GT_st rfl rfl rfl rfl (V_move rfl rfl) ?_
              refine GT_st rfl rfl rfl rfl (V_add rfl rfl rfl (wrap_i64 (by omega))) ?_
              refine GT_st rfl rfl rfl rfl (V_index rfl rfl rfl Tryd.underlying22 sz_35 (k := (x.fr + (k : Int)).toNat) (by omega) f1 (h.isSome f1)) ?_
              refine GT_st rfl rfl rfl rfl (V_loadN (vs := [_, _]) rfl rfl ag_35 sz_35 rfl (h.ats noM f1)) ?_
              refine GT_alloc rfl rfl rfl rfl rfl zc_35 (fun _ => GR_nil) (fun b17 => ?_)
              refine GT_store (vs := [_, _]) (l' := [_, _]) rfl rfl rfl rfl rfl rfl rfl sz_35 rfl rfl (Nat.le_of_ble_eq_true rfl) rfl (GR_nil) ?_
              refine GT_nil ?_
              refine GE_seq ?_
              refine GE_seq ?_
              refine GE_slots (L' := [(2, _), (3, _), (5, _), (9, _), (11, _), (12, _), (13, _), (14, _), (15, _), (16, _), (17, _)]) ⟨rfl, rfl, rfl, rfl, rfl, rfl, rfl, rfl, rfl, rfl, rfl, trivial⟩ ?_
              refine GE_drawn (.st 0 (.st 1 (.st 2 (.st 3 (.st 4 (.st 7 (.st 8 (.st 10 (.st 11 (.ld 5 [7, 8, 10, 11] (.st 6 (.ld 9 [10, 11, 6] (.st 12 (.st 13 (.st 14 (.st 15 (.st 16 (.st 17 (.st 20 (.st 21 (.st 23 (.st 24 (.ld 18 [20, 21, 23, 24] (.st 19 (.ld 22 [23, 24, 19] (.st 25 (.st 26 (.st 27 (.st 28 (.st 29 (.st 30 (.st 31 (.st 32 (.st 33 (.st 34 (.st 35 (.st 36 (.st 37 (.st 38 (.st 39 (.st 40 (.st 41 (.st 42 (.st 43 .nil)))))))))))))))))))))))))))))))))))))))))))) [5, 9, 18, 22] (by decide +kernel) ?_
              refine GT_st rfl rfl rfl rfl (V_move rfl rfl) ?_
              refine GT_st rfl rfl rfl rfl (V_isF (V_neq rfl rfl rfl) (fun q => q rfl)) ?_
              refine GT_st rfl rfl rfl rfl (V_move rfl rfl) ?_
              first | refine GT_st_g rfl rfl rfl rfl rfl rfl rfl (V_field rfl rfl fo_35_0) ?_ | refine GT_st_g rfl rfl rfl rfl rfl rfl rfl (V_fieldA rfl rfl fo_35_0) ?_
              refine GT_st_g rfl rfl rfl rfl rfl rfl rfl (V_load rfl rfl ag_2 (CellAt.item rfl)) ?_
              first | refine GT_st_g rfl rfl rfl rfl rfl rfl rfl (V_field rfl rfl fo_35_0) ?_ | refine GT_st_g rfl rfl rfl rfl rfl rfl rfl (V_fieldA rfl rfl fo_35_0) ?_
              refine GT_st_g rfl rfl rfl rfl rfl rfl rfl (V_load rfl rfl ag_2 (CellAt.item rfl)) ?_
              first | refine GT_st_g rfl rfl rfl rfl rfl rfl rfl (V_field rfl rfl fo_30_6) ?_ | refine GT_st_g rfl rfl rfl rfl rfl rfl rfl (V_fieldA rfl rfl fo_30_6) ?_
              refine GT_st_g rfl rfl rfl rfl rfl rfl rfl (V_load rfl rfl ag_2 (CellAt.item rfl)) ?_
              refine GT_call0_g rfl rfl rfl rfl rfl rfl rfl rfl rfl rfl rfl rn_18 (fun w hw => C_amount (by omega)) (GR_cons_g rfl rfl rfl rfl rfl rfl rfl ((by first | exact V_field rfl rfl fo_35_0 | exact V_fieldA rfl rfl fo_35_0)) (GR_cons_g rfl rfl rfl rfl rfl rfl rfl (V_load rfl rfl ag_2 (CellAt.item rfl)) (GR_cons_g rfl rfl rfl rfl rfl rfl rfl ((by first | exact V_field rfl rfl fo_30_6 | exact V_fieldA rfl rfl fo_30_6)) (GR_cons_g rfl rfl rfl rfl rfl rfl rfl (V_load rfl rfl ag_2 (CellAt.item rfl)) (GR_nil))))) ?_
              refine GT_st_g rfl rfl rfl rfl rfl rfl rfl (V_mul rfl rfl rfl (wrap_i64 (by unfold amt; omega))) ?_
              refine GT_call0_g rfl rfl rfl rfl rfl rfl rfl rfl rfl rfl rfl rn_18 (fun w hw => C_amount (by omega)) (GR_cons_g rfl rfl rfl rfl rfl rfl rfl ((by first | exact V_field rfl rfl fo_30_6 | exact V_fieldA rfl rfl fo_30_6)) (GR_cons_g rfl rfl rfl rfl rfl rfl rfl (V_load rfl rfl ag_2 (CellAt.item rfl)) (GR_cons_g rfl rfl rfl rfl rfl rfl rfl (V_mul rfl rfl rfl (wrap_i64 (by unfold amt; omega))) (GR_nil)))) ?_
              refine GT_st_g rfl rfl rfl rfl rfl rfl rfl (V_mul rfl rfl rfl (wrap_i64 (by omega))) ?_
              refine GT_st_g rfl rfl rfl rfl rfl rfl rfl (V_isF (V_gtr rfl rfl rfl) (by omega)) ?_
              refine GT_st rfl rfl rfl rfl (V_pick_f rfl rfl rfl) ?_
              refine GT_st rfl rfl rfl rfl (V_move rfl rfl) ?_
              first | refine GT_st_g rfl rfl rfl rfl rfl rfl rfl (V_field rfl rfl fo_35_1) ?_ | refine GT_st_g rfl rfl rfl rfl rfl rfl rfl (V_fieldA rfl rfl fo_35_1) ?_
              refine GT_st_g rfl rfl rfl rfl rfl rfl rfl (V_load rfl rfl ag_2 (CellAt.item rfl)) ?_
              first | refine GT_st_g rfl rfl rfl rfl rfl rfl rfl (V_field rfl rfl fo_35_1) ?_ | refine GT_st_g rfl rfl rfl rfl rfl rfl rfl (V_fieldA rfl rfl fo_35_1) ?_
              refine GT_st_g rfl rfl rfl rfl rfl rfl rfl (V_load rfl rfl ag_2 (CellAt.item rfl)) ?_
              first | refine GT_st_g rfl rfl rfl rfl rfl rfl rfl (V_field rfl rfl fo_30_6) ?_ | refine GT_st_g rfl rfl rfl rfl rfl rfl rfl (V_fieldA rfl rfl fo_30_6) ?_
              refine GT_st_g rfl rfl rfl rfl rfl rfl rfl (V_load rfl rfl ag_2 (CellAt.item rfl)) ?_
              refine GT_call0_g rfl rfl rfl rfl rfl rfl rfl rfl rfl rfl rfl rn_18 (fun w hw => C_amount (by omega)) (GR_cons_g rfl rfl rfl rfl rfl rfl rfl ((by first | exact V_field rfl rfl fo_35_1 | exact V_fieldA rfl rfl fo_35_1)) (GR_cons_g rfl rfl rfl rfl rfl rfl rfl (V_load rfl rfl ag_2 (CellAt.item rfl)) (GR_cons_g rfl rfl rfl rfl rfl rfl rfl ((by first | exact V_field rfl rfl fo_30_6 | exact V_fieldA rfl rfl fo_30_6)) (GR_cons_g rfl rfl rfl rfl rfl rfl rfl (V_load rfl rfl ag_2 (CellAt.item rfl)) (GR_nil))))) ?_
              refine GT_st_g rfl rfl rfl rfl rfl rfl rfl (V_mul rfl rfl rfl (wrap_i64 (by unfold amt; omega))) ?_
              refine GT_call0_g rfl rfl rfl rfl rfl rfl rfl rfl rfl rfl rfl rn_18 (fun w hw => C_amount (by omega)) (GR_cons_g rfl rfl rfl rfl rfl rfl rfl ((by first | exact V_field rfl rfl fo_30_6 | exact V_fieldA rfl rfl fo_30_6)) (GR_cons_g rfl rfl rfl rfl rfl rfl rfl (V_load rfl rfl ag_2 (CellAt.item rfl)) (GR_cons_g rfl rfl rfl rfl rfl rfl rfl (V_mul rfl rfl rfl (wrap_i64 (by unfold amt; omega))) (GR_nil)))) ?_
              refine GT_st_g rfl rfl rfl rfl rfl rfl rfl (V_mul rfl rfl rfl (wrap_i64 (by omega))) ?_
              refine GT_st_g rfl rfl rfl rfl rfl rfl rfl (V_isF (V_gtr rfl rfl rfl) (by omega)) ?_
              refine GT_st rfl rfl rfl rfl (V_pick_f rfl rfl rfl) ?_
              refine GT_st rfl rfl rfl rfl (V_move rfl rfl) ?_
              first | refine GT_st_g rfl rfl rfl rfl rfl rfl rfl (V_field rfl rfl fo_35_0) ?_ | refine GT_st_g rfl rfl rfl rfl rfl rfl rfl (V_fieldA rfl rfl fo_35_0) ?_
              refine GT_st_g rfl rfl rfl rfl rfl rfl rfl (V_load rfl rfl ag_2 (CellAt.item rfl)) ?_
              first | refine GT_st_g rfl rfl rfl rfl rfl rfl rfl (V_field rfl rfl fo_35_0) ?_ | refine GT_st_g rfl rfl rfl rfl rfl rfl rfl (V_fieldA rfl rfl fo_35_0) ?_
              refine GT_st_g rfl rfl rfl rfl rfl rfl rfl (V_load rfl rfl ag_2 (CellAt.item rfl)) ?_
              refine GT_st_g rfl rfl rfl rfl rfl rfl rfl (V_mul rfl rfl rfl (wrap_i64 (by omega))) ?_
              refine GT_st_g rfl rfl rfl rfl rfl rfl rfl (V_isF (V_lss rfl rfl rfl) (by omega)) ?_
              refine GT_st rfl rfl rfl rfl (V_pick_f rfl rfl rfl) ?_
              refine GT_st rfl rfl rfl rfl (V_move rfl rfl) ?_
              first | refine GT_st_g rfl rfl rfl rfl rfl rfl rfl (V_field rfl rfl fo_35_1) ?_ | refine GT_st_g rfl rfl rfl rfl rfl rfl rfl (V_fieldA rfl rfl fo_35_1) ?_
              refine GT_st_g rfl rfl rfl rfl rfl rfl rfl (V_load rfl rfl ag_2 (CellAt.item rfl)) ?_
              first | refine GT_st_g rfl rfl rfl rfl rfl rfl rfl (V_field rfl rfl fo_35_1) ?_ | refine GT_st_g rfl rfl rfl rfl rfl rfl rfl (V_fieldA rfl rfl fo_35_1) ?_
              refine GT_st_g rfl rfl rfl rfl rfl rfl rfl (V_load rfl rfl ag_2 (CellAt.item rfl)) ?_
              refine GT_st_g rfl rfl rfl rfl rfl rfl rfl (V_mul rfl rfl rfl (wrap_i64 (by omega))) ?_
              refine GT_st_g rfl rfl rfl rfl rfl rfl rfl (V_isF (V_lss rfl rfl rfl) (by omega)) ?_
              refine GT_st rfl rfl rfl rfl (V_pick_f rfl rfl rfl) ?_
              refine GT_nil ?_
              refine GE_cond_f rfl ?_
              refine GE_skip ?_
              refine GE_seq ?_
              refine GE_slots (L' := [(2, _), (3, _), (5, _), (9, _), (11, _), (12, _), (13, _), (14, _), (127, _), (128, _), (129, _), (130, _), (131, _), (132, _), (133, _), (134, _), (135, _), (136, _), (137, _), (140, _), (141, _), (142, _), (143, _), (144, _), (145, _), (146, _), (147, _), (148, _), (149, _), (150, _), (153, _), (154, _), (155, _), (156, _), (157, _), (158, _), (161, _), (162, _), (163, _), (164, _), (165, _), (166, _)]) ⟨rfl, rfl, rfl, rfl, rfl, rfl, rfl, rfl, rfl, rfl, rfl, rfl, rfl, rfl, rfl, rfl, rfl, rfl, rfl, rfl, rfl, rfl, rfl, rfl, rfl, rfl, rfl, rfl, rfl, rfl, rfl, rfl, rfl, rfl, rfl, rfl, rfl, rfl, rfl, rfl, rfl, rfl, trivial⟩ ?_
              refine GE_plain (.st 0 (.ld 1 [] (.st 2 (.ld 3 [] (.st 4 (.ld 5 [] (.st 6 (.st 7 (.st 8 (.ld 9 [] (.ld 10 [] (.st 11 .nil)))))))))))) rfl ?_
              refine GT_st rfl rfl rfl rfl (V_loadN (vs := [_, _]) rfl rfl ag_27 sz_27 rfl (CellsAt.item rfl)) ?_
              refine GT_buildSlice (z := [_, _]) rfl rfl rfl rfl rfl Tryd.underlying28 zc_27 sz_27 (by decide) rfl rfl (fun _ => GR_nil) (fun b170 => ?_)
              have ho3 : Own 2 27 eTk [sameT t A' c'] (.slice (some ⟨b170, 0, none⟩) 1 1) [(b170, blk [.string t.name, .slice A' t.data.length c'] 27)] := Own.lit (by simp [eTk, sameT]) rfl (by decide); have hsw : (sameT t A' c').wf := ⟨ht.1, (by obtain ⟨A3, c3, e3, l3⟩ := hO.form; simp only [Value.slice.injEq] at e3; obtain ⟨_, _, e4⟩ := e3; subst e4; exact l3), fun s hs => by rw [(List.mem_replicate.1 hs).2]; exact ht.2.2 _ (getD_mem (by omega))⟩
              refine GT_st rfl rfl rfl rfl (V_loadN (vs := [_, _, _, _, _, _, _]) rfl rfl ag_30 sz_30 rfl (CellsAt.item rfl)) ?_
              refine GT_buildSlice (z := [_, _, _, _, _, _, _]) rfl rfl rfl rfl rfl Tryd.underlying31 zc_30 sz_30 (by decide) rfl rfl (fun _ => GR_nil) (fun b172 => ?_)
              have hp5 : Own 7 30 ePrt [⟨0, x.fr, x.to, 0, x.inn, x.out, x.lev⟩] (.slice (some ⟨b172, 0, none⟩) 1 1) [(b172, blk [I 0, I x.fr, I x.to, I 0, I x.inn, I x.out, I x.lev] 30)] := Own.lit rfl rfl (by decide)
              refine GT_st rfl rfl rfl rfl (V_move rfl rfl) ?_
              refine GT_call0 rfl rfl rfl rfl rfl rfl rfl rfl rn_23 (fun w hw => C_SoundOne (t := sameT t A' c') (x := ⟨0, x.fr, x.to, 0, x.inn, x.out, x.lev⟩) (lv := x.lev) rfl (Tks.one ho3 hw (hO.rdH eSam_len hw) hsw) (hp5.rdH ePrt_len hw) (one_prog (same_tks hT) (same_prt hk rfl) rfl) (by rw [hlg]; omega)) (GR_nil) ?_
              refine GT_st rfl rfl rfl rfl (V_move rfl rfl) ?_
              refine GT_st rfl rfl rfl rfl (V_extract rfl rfl rfl) ?_
              refine GT_st rfl rfl rfl rfl (V_extract rfl rfl rfl) ?_
              refine GT_alloc rfl rfl rfl rfl rfl zc_35 (fun _ => GR_nil) (fun b18 => ?_)
              refine GT_store (vs := [_, _]) (l' := [_, _]) rfl rfl rfl rfl rfl rfl rfl sz_35 rfl rfl (Nat.le_of_ble_eq_true rfl) rfl (GR_nil) ?_
              refine GT_st rfl rfl rfl rfl (V_assign rfl rfl) ?_
              refine GT_nil ?_
              refine GE_seq ?_
              refine GE_seq ?_
              refine GE_slots (L' := [(2, _), (3, _), (5, _), (9, _), (11, _), (12, _), (13, _), (14, _), (16, _), (18, _), (127, _), (128, _), (129, _), (130, _), (131, _), (132, _), (133, _), (134, _), (135, _), (136, _), (137, _), (140, _), (141, _), (142, _), (143, _), (144, _), (145, _), (146, _), (147, _), (148, _), (149, _), (150, _), (153, _), (154, _), (155, _), (156, _), (157, _), (158, _), (161, _), (162, _), (163, _), (164, _), (165, _), (166, _)]) ⟨rfl, rfl, rfl, rfl, rfl, rfl, rfl, rfl, rfl, rfl, rfl, rfl, rfl, rfl, rfl, rfl, rfl, rfl, rfl, rfl, rfl, rfl, rfl, rfl, rfl, rfl, rfl, rfl, rfl, rfl, rfl, rfl, rfl, rfl, rfl, rfl, rfl, rfl, rfl, rfl, rfl, rfl, rfl, rfl, trivial⟩ ?_
              refine GE_plain (.st 0 (.st 1 .nil)) rfl ?_
              refine GT_st rfl rfl rfl rfl (V_move rfl rfl) ?_
              refine GT_st rfl rfl rfl rfl (V_isF (V_neq rfl rfl rfl) (fun q => q rfl)) ?_
              refine GT_nil ?_
              refine GE_cond_f rfl ?_
              refine GE_skip ?_
              refine GE_cut (ι := Bool) (fun fl2 => [(2, ptr b2 0), (3, ptr b3 0), (5, .slice (some ⟨b26, 0, none⟩) 1 1), (9, ptr b9 0), (11, I (x.to - x.fr)), (12, I last), (13, .bool fl2), (14, I k), (18, ptr b18 0)]) (fun fl2 => (b18, blk [I (snd [sameT t A' c'] ⟨0, x.fr, x.to, 0, x.inn, x.out, x.lev⟩ k x.lev).l, I (snd [sameT t A' c'] ⟨0, x.fr, x.to, 0, x.inn, x.out, x.lev⟩ k x.lev).r] 35) :: (b9, blk [.string t.name, .slice A' t.data.length c'] 27) :: (I' ++ [(b2, blk [.string t.name, .slice t.A t.data.length t.c] 27), (b3, blk [I 0, I x.fr, I x.to, I 0, I x.inn, I x.out, I x.lev] 30), (b26, blk [.string t.name, .slice t.A t.data.length t.c] 27)])) (fun fl2 => fl2 = true → ∃ j : Int, 1 ≤ j ∧ j ≤ k ∧ amt (ld (t.data.getD 0 default).l ⟨0, x.fr, x.to, 0, x.inn, x.out, x.lev⟩ j x.lev) < amt (ld (t.data.getD 0 default).l ⟨0, x.fr, x.to, 0, x.inn, x.out, x.lev⟩ (j - 1) x.lev)) ?_ (fun hcut => ?_)
              · intro fl2 hfl2
                refine GE_seq ?_
                refine GE_seq ?_
                refine GE_plain (.st 0 (.st 1 (.st 2 (.st 3 (.ld 4 [] (.st 5 (.st 6 (.st 7 .nil)))))))) rfl ?_
                refine GT_st rfl rfl rfl rfl (V_move rfl rfl) ?_
                refine GT_st rfl rfl rfl rfl (V_move rfl rfl) ?_
                first | refine GT_splitNot (d := 185) rfl (fun q5 => ?_) (fun q5 => ?_) | refine GT_split (d := 185) rfl (fun q5 => ?_) (fun q5 => ?_) | refine GT_splitNotB (d := 185) rfl (fun q5 => ?_) (fun q5 => ?_) | refine GT_splitB (d := 185) rfl (fun q5 => ?_) (fun q5 => ?_)
                · skip
                  first | refine GT_st_g rfl rfl rfl rfl rfl rfl rfl (V_field rfl rfl fo_35_0) ?_ | refine GT_st_g rfl rfl rfl rfl rfl rfl rfl (V_fieldA rfl rfl fo_35_0) ?_
                  refine GT_st_g rfl rfl rfl rfl rfl rfl rfl (V_load rfl rfl ag_2 (CellAt.item rfl)) ?_
                  refine GT_call0_g rfl rfl rfl rfl rfl rfl rfl rfl rfl rfl rfl rn_18 (fun w hw => C_amount (by omega)) (GR_nil) ?_
                  refine GT_st_g rfl rfl rfl rfl rfl rfl rfl (V_move rfl rfl) ?_
                  refine GT_st_g rfl rfl rfl rfl rfl rfl rfl (V_isF (V_gtr rfl rfl rfl) (by obtain ⟨j, j1, j2, j3⟩ := hfl2 q5; have := ld_fall hk j1 j2 (by rw [hlg]; omega) j3; rw [hl1 (by omega)]; rw [heu]; dsimp only at this; omega)) ?_
                  refine GT_st rfl rfl rfl rfl (V_pick_t rfl rfl rfl) ?_
                  refine GT_nil ?_
                  refine GE_cond_f rfl ?_
                  refine GE_skip ?_
                  refine GE_slots (L' := [(2, _), (3, _), (5, _), (9, _), (11, _), (13, _), (14, _), (18, _), (186, _), (187, _), (188, _), (189, _), (190, _)]) ⟨rfl, rfl, rfl, rfl, rfl, rfl, rfl, rfl, rfl, rfl, rfl, rfl, rfl, trivial⟩ ?_
                  refine GE_plain (.st 0 (.st 1 (.ld 2 [] (.st 3 .nil)))) rfl ?_
                  first | refine GT_st rfl rfl rfl rfl (V_field rfl rfl fo_35_0) ?_ | refine GT_st rfl rfl rfl rfl (V_fieldA rfl rfl fo_35_0) ?_
                  refine GT_st rfl rfl rfl rfl (V_load rfl rfl ag_2 (CellAt.item rfl)) ?_
                  refine GT_call0 rfl rfl rfl rfl rfl rfl rfl rfl rn_18 (fun w hw => C_amount (by omega)) (GR_nil) ?_
                  refine GT_st rfl rfl rfl rfl (V_assign rfl rfl) ?_
                  refine GT_nil ?_
                  refine GE_inBlock ?_
                  refine GE_slots (L' := [(2, _), (3, _), (5, _), (9, _), (11, _), (12, _), (13, _), (14, _), (186, _), (187, _), (188, _), (189, _), (190, _)]) ⟨rfl, rfl, rfl, rfl, rfl, rfl, rfl, rfl, rfl, rfl, rfl, rfl, rfl, trivial⟩ ?_
                  refine GE_plain (.st 0 (.st 1 (.ld 2 [] .nil))) rfl ?_
                  refine GT_st rfl rfl rfl rfl (V_move rfl rfl) ?_
                  refine GT_st rfl rfl rfl rfl (V_add rfl rfl rfl (wrap_i64 (by omega))) ?_
                  refine GT_ldv rfl rfl rfl rfl rfl (V_assign rfl rfl) (GR_nil) ?_
                  refine GT_nil ?_
                  exact GE_to (ih2 (k + 1, amt (ld (t.data.getD 0 default).l ⟨0, x.fr, x.to, 0, x.inn, x.out, x.lev⟩ k x.lev), fl2) ⟨by dsimp only; omega, fun h => (by cases h), fun _ => (by dsimp only; rw [show ((k + 1 : Nat) : Int) - 1 = k by omega]), fun h => (by obtain ⟨j, j1, j2, j3⟩ := hfl2 h; exact ⟨j, j1, (by dsimp only; omega), j3⟩)⟩ (by dsimp only; omega)) ⟨rfl, rfl, rfl, rfl, rfl, lookI rfl (by rw [heu]), rfl, rfl, trivial⟩ (HS.cons rfl (HS.chunk (HS.cons rfl (HS.cons rfl (HS.cons rfl HS.nil)))))
                · skip
                  refine GT_skip rfl rfl rfl rfl rfl (by decide) rfl rfl ?_
                  refine GT_skip rfl rfl rfl rfl rfl (by decide) rfl rfl ?_
                  refine GT_skip_ld rfl rfl rfl rfl rfl (by decide) rfl rfl rfl (GR_nil) ?_
                  refine GT_skip rfl rfl rfl rfl rfl (by decide) rfl rfl ?_
                  refine GT_skip rfl rfl rfl rfl rfl (by decide) rfl rfl ?_
                  refine GT_st rfl rfl rfl rfl (V_pick_f rfl rfl rfl) ?_
                  refine GT_nil ?_
                  refine GE_cond_f rfl ?_
                  refine GE_skip ?_
                  refine GE_slots (L' := [(2, _), (3, _), (5, _), (9, _), (11, _), (13, _), (14, _), (18, _), (186, _), (187, _), (188, _), (189, _), (190, _)]) ⟨rfl, rfl, rfl, rfl, rfl, rfl, rfl, rfl, rfl, rfl, rfl, rfl, rfl, trivial⟩ ?_
                  refine GE_plain (.st 0 (.st 1 (.ld 2 [] (.st 3 .nil)))) rfl ?_
                  first | refine GT_st rfl rfl rfl rfl (V_field rfl rfl fo_35_0) ?_ | refine GT_st rfl rfl rfl rfl (V_fieldA rfl rfl fo_35_0) ?_
                  refine GT_st rfl rfl rfl rfl (V_load rfl rfl ag_2 (CellAt.item rfl)) ?_
                  refine GT_call0 rfl rfl rfl rfl rfl rfl rfl rfl rn_18 (fun w hw => C_amount (by omega)) (GR_nil) ?_
                  refine GT_st rfl rfl rfl rfl (V_assign rfl rfl) ?_
                  refine GT_nil ?_
                  refine GE_inBlock ?_
                  refine GE_slots (L' := [(2, _), (3, _), (5, _), (9, _), (11, _), (12, _), (13, _), (14, _), (186, _), (187, _), (188, _), (189, _), (190, _)]) ⟨rfl, rfl, rfl, rfl, rfl, rfl, rfl, rfl, rfl, rfl, rfl, rfl, rfl, trivial⟩ ?_
                  refine GE_plain (.st 0 (.st 1 (.ld 2 [] .nil))) rfl ?_
                  refine GT_st rfl rfl rfl rfl (V_move rfl rfl) ?_
                  refine GT_st rfl rfl rfl rfl (V_add rfl rfl rfl (wrap_i64 (by omega))) ?_
                  refine GT_ldv rfl rfl rfl rfl rfl (V_assign rfl rfl) (GR_nil) ?_
                  refine GT_nil ?_
                  exact GE_to (ih2 (k + 1, amt (ld (t.data.getD 0 default).l ⟨0, x.fr, x.to, 0, x.inn, x.out, x.lev⟩ k x.lev), fl2) ⟨by dsimp only; omega, fun h => (by cases h), fun _ => (by dsimp only; rw [show ((k + 1 : Nat) : Int) - 1 = k by omega]), fun h => (by obtain ⟨j, j1, j2, j3⟩ := hfl2 h; exact ⟨j, j1, (by dsimp only; omega), j3⟩)⟩ (by dsimp only; omega)) ⟨rfl, rfl, rfl, rfl, rfl, lookI rfl (by rw [heu]), rfl, rfl, trivial⟩ (HS.cons rfl (HS.chunk (HS.cons rfl (HS.cons rfl (HS.cons rfl HS.nil)))))
              · skip
                refine GE_seq ?_
                refine GE_plain (.st 0 (.st 1 (.ld 2 [] (.st 3 (.st 4 .nil))))) rfl ?_
                first | refine GT_st rfl rfl rfl rfl (V_field rfl rfl fo_35_0) ?_ | refine GT_st rfl rfl rfl rfl (V_fieldA rfl rfl fo_35_0) ?_
                refine GT_st rfl rfl rfl rfl (V_load rfl rfl ag_2 (CellAt.item rfl)) ?_
                refine GT_call0 rfl rfl rfl rfl rfl rfl rfl rfl rn_18 (fun w hw => C_amount (by omega)) (GR_nil) ?_
                refine GT_st rfl rfl rfl rfl (V_move rfl rfl) ?_
                refine GT_st rfl rfl rfl rfl (V_lss rfl rfl rfl) ?_
                refine GT_nil ?_
                first | refine GE_condNot rfl (fun q4 => ?_) (fun q4 => ?_) | refine GE_cond rfl (fun q4 => ?_) (fun q4 => ?_) | refine GE_condNotB rfl (fun q4 => ?_) (fun q4 => ?_) | refine GE_condB rfl (fun q4 => ?_) (fun q4 => ?_)
                · rw [heu] at q4
                  refine GE_slots (L' := [(2, _), (3, _), (5, _), (9, _), (11, _), (12, _), (14, _), (18, _), (127, _), (128, _), (129, _), (130, _), (131, _), (132, _), (133, _), (134, _), (135, _), (136, _), (137, _), (140, _), (141, _), (142, _), (143, _), (144, _), (145, _), (146, _), (147, _), (148, _), (149, _), (150, _), (153, _), (154, _), (155, _), (156, _), (157, _), (158, _), (161, _), (162, _), (163, _), (164, _), (165, _), (166, _)]) ⟨rfl, rfl, rfl, rfl, rfl, rfl, rfl, rfl, rfl, rfl, rfl, rfl, rfl, rfl, rfl, rfl, rfl, rfl, rfl, rfl, rfl, rfl, rfl, rfl, rfl, rfl, rfl, rfl, rfl, rfl, rfl, rfl, rfl, rfl, rfl, rfl, rfl, rfl, rfl, rfl, rfl, rfl, trivial⟩ ?_
                  refine GE_plain (.st 0 .nil) rfl ?_
                  refine GT_st rfl rfl rfl rfl (V_assign rfl rfl) ?_
                  refine GT_nil ?_
                  first
                    | exact GE_to (hcut _ (fun _ => ⟨(k : Int), by rcases Nat.eq_zero_or_pos k with e | e; have := hl0 e; omega; omega, Int.le_refl _, by rw [← hl1 (by rcases Nat.eq_zero_or_pos k with e | e; have := hl0 e; omega; omega)]; omega⟩)) ⟨rfl, rfl, rfl, rfl, rfl, rfl, rfl, rfl, rfl, trivial⟩ (HS.cons rfl (HS.cons rfl (HS.chunk (HS.cons rfl (HS.cons rfl (HS.cons rfl HS.nil))))))
                    | exact GE_to (hcut _ (fun h => by obtain ⟨j, j1, j2, j3⟩ := hfl h; exact ⟨j, j1, by omega, j3⟩)) ⟨rfl, rfl, rfl, rfl, rfl, rfl, rfl, rfl, rfl, trivial⟩ (HS.cons rfl (HS.cons rfl (HS.chunk (HS.cons rfl (HS.cons rfl (HS.cons rfl HS.nil))))))
                · skip
                  refine GE_skip ?_
                  first
                    | exact GE_to (hcut _ (fun _ => ⟨(k : Int), by rcases Nat.eq_zero_or_pos k with e | e; have := hl0 e; omega; omega, Int.le_refl _, by rw [← hl1 (by rcases Nat.eq_zero_or_pos k with e | e; have := hl0 e; omega; omega)]; omega⟩)) ⟨rfl, rfl, rfl, rfl, rfl, rfl, rfl, rfl, rfl, trivial⟩ (HS.cons rfl (HS.cons rfl (HS.chunk (HS.cons rfl (HS.cons rfl (HS.cons rfl HS.nil))))))
                    | exact GE_to (hcut _ (fun h => by obtain ⟨j, j1, j2, j3⟩ := hfl h; exact ⟨j, j1, by omega, j3⟩)) ⟨rfl, rfl, rfl, rfl, rfl, rfl, rfl, rfl, rfl, trivial⟩ (HS.cons rfl (HS.cons rfl (HS.chunk (HS.cons rfl (HS.cons rfl (HS.cons rfl HS.nil))))))
            · skip
              refine GE_exit rfl ?_
              refine GE_seq ?_
              refine GE_slots (L' := []) trivial ?_
              refine GE_plain (.ld 0 [] (.st 1 .nil)) rfl ?_
              refine GT_call0 rfl rfl rfl rfl rfl rfl rfl rfl rn_16 (fun w hw => C_Works) (GR_nil) ?_
              refine GT_st rfl rfl rfl rfl (V_assign rfl rfl) ?_
              refine GT_nil ?_
              refine GE_ret Tryd.func5 rfl (fun w hw => ⟨?_, hw.nil⟩)
              rfl
          · exact ⟨by dsimp only; omega, fun _ => rfl, fun h => absurd h (by decide), fun h => by cases h⟩
      · exact ⟨Nat.zero_le _, Own.nil⟩
end
end Go.Proofs.YtnklkobhjdkblaaDoor
