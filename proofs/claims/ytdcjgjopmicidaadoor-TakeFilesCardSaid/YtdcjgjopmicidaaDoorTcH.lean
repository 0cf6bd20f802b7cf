/- TakeFiles, walked. -/
import Derived.Test.YtdcjgjopmicidaaDoorTcF
import Derived.Test.YtdcjgjopmicidaaDoorTcG
namespace Go.Proofs.YtdcjgjopmicidaaDoor
open Go.Sx Go.Proofs Go.RowKit

section
variable {w : World} {A B : Option Addr} {c c2 : Nat}
theorem C_sameTake {n1 n2 : ByteArray} {d1 d2 : List Sam} (ha : RdL w 2 eSam A d1) (hb : RdL w 2 eSam B d2) (hn : n1 = n2) (hd : d1 = d2) (hl : d1.length ≤ 1000000) : Con0 Tryd.prog 10 [.agg #[.string n1, .slice A d1.length c], .agg #[.string n2, .slice B d2.length c2]] w (.bool true) := by
  subst hn; subst hd
  refine Ret_of (vs := [_, _]) hm none' Tryd.func10 rfl Tryd.ntmps10 rfl ?_
  dsimp only [slotsOf]
  refine GE_seq ?_
  refine GE_plain (.ld 0 [] (.ld 1 [] (.st 2 .nil))) rfl ?_
  refine GT_box (z := [_, _]) rfl rfl rfl rfl rfl rfl rfl (fun _ => GR_nil) (fun b2 => ?_)
  refine GT_box (z := [_, _]) rfl rfl rfl rfl rfl rfl rfl (fun _ => GR_nil) (fun b3 => ?_)
  refine GT_st rfl rfl rfl rfl (V_assign rfl rfl) ?_
  refine GT_nil ?_
  refine GE_seq ?_
  refine GE_plain (.st 0 (.st 1 (.st 2 (.st 3 (.st 4 (.st 5 (.st 6 (.st 7 (.st 8 (.st 9 (.ld 10 [] (.st 11 (.st 12 .nil))))))))))))) rfl ?_
  first | refine GT_st rfl rfl rfl rfl (V_field rfl rfl fo_24_0) ?_ | refine GT_st rfl rfl rfl rfl (V_fieldA rfl rfl fo_24_0) ?_
  refine GT_st rfl rfl rfl rfl (V_load rfl rfl ag_9 (CellAt.item rfl)) ?_
  first | refine GT_st rfl rfl rfl rfl (V_field rfl rfl fo_24_0) ?_ | refine GT_st rfl rfl rfl rfl (V_fieldA rfl rfl fo_24_0) ?_
  refine GT_st rfl rfl rfl rfl (V_load rfl rfl ag_9 (CellAt.item rfl)) ?_
  refine GT_st rfl rfl rfl rfl (V_isT (V_eqlStr rfl rfl rfl) rfl) ?_
  refine GT_st rfl rfl rfl rfl (V_move rfl rfl) ?_
  first | refine GT_st_g rfl rfl rfl rfl rfl rfl rfl (V_field rfl rfl fo_24_1) ?_ | refine GT_st_g rfl rfl rfl rfl rfl rfl rfl (V_fieldA rfl rfl fo_24_1) ?_
  refine GT_st_g rfl rfl rfl rfl rfl rfl rfl (V_load rfl rfl ag_22 (CellAt.item rfl)) ?_
  first | refine GT_st_g rfl rfl rfl rfl rfl rfl rfl (V_field rfl rfl fo_24_1) ?_ | refine GT_st_g rfl rfl rfl rfl rfl rfl rfl (V_fieldA rfl rfl fo_24_1) ?_
  refine GT_st_g rfl rfl rfl rfl rfl rfl rfl (V_load rfl rfl ag_22 (CellAt.item rfl)) ?_
  refine GT_call0_g rfl rfl rfl rfl rfl rfl rfl rfl rfl rfl rfl rn_23 (fun w hw => C_Same (by omega) (ha.sh hw) (hb.sh hw)) (GR_nil) ?_
  refine GT_st rfl rfl rfl rfl (V_pick_t rfl rfl rfl) ?_
  refine GT_st rfl rfl rfl rfl (V_assign rfl rfl) ?_
  refine GT_nil ?_
  refine GE_ret Tryd.func10 rfl (fun w hw => ⟨?_, hw.nil⟩)
  refine congrArg Value.bool ?_; simp
theorem un1_len (b : List UInt8) : (un1 b).1.2.length ≤ 4096 := by
  have h7 : un1 b = (td0, 7) → (un1 b).1.2.length ≤ 4096 := fun e => by rw [e]; exact Nat.zero_le _
  by_cases h : 65536 < b.length
  · exact h7 (if_pos h)
  · have e : un1 b = unp (par1 b) b := if_neg h
    rw [e]
    unfold unp
    split
    · rename_i h; exact (tkE_ok h.1).most
    · exact Nat.zero_le _
set_option maxRecDepth 20000 in
set_option maxHeartbeats 2000000 in
theorem L_TakeFiles {t : Tk} {b : List UInt8} (h : RdL w 2 eSam t.A t.data) (ht : t.wf) (hb : RdL w 1 eU B b) (hc : b.length ≤ c2 ∧ c2 ≤ maxLen) : Con0 Tryd.prog 3 [.agg #[.string t.name, .slice t.A t.data.length t.c], .slice B b.length c2] w (.bool true) := by
  have hul := un1_len b
  refine Ret_of (vs := [_, _]) hm none' Tryd.func3 rfl Tryd.ntmps3 rfl ?_
  dsimp only [slotsOf]
  refine GE_seq ?_
  refine GE_plain (.ld 0 [] (.st 1 .nil)) rfl ?_
  refine GT_box (z := [_, _]) rfl rfl rfl rfl rfl rfl rfl (fun _ => GR_nil) (fun b2 => ?_)
  refine GT_st rfl rfl rfl rfl (V_assign rfl rfl) ?_
  refine GT_nil ?_
  refine GE_seq ?_
  refine GE_seq ?_
  refine GE_plain (.st 0 (.ld 1 [] (.ld 2 [] (.st 3 (.st 4 (.st 5 (.st 6 (.st 7 (.st 8 (.st 9 (.st 10 (.st 11 (.st 12 (.st 13 (.st 14 (.st 15 (.st 16 (.st 17 .nil)))))))))))))))))) rfl ?_
  refine GT_st rfl rfl rfl rfl (V_loadN (vs := [_, _]) rfl rfl ag_24 sz_24 rfl (CellsAt.item rfl)) ?_
  refine GT_buildSlice (z := [_, _]) rfl rfl rfl rfl rfl Tryd.underlying27 zc_24 sz_24 (by decide) rfl rfl (fun _ => GR_nil) (fun b14 => ?_)
  have ho1 : Own 2 24 eTk [t] (.slice (some ⟨b14, 0, none⟩) 1 1) [(b14, blk [.string t.name, .slice t.A t.data.length t.c] 24)] := Own.lit rfl rfl (by decide)
  refine GT_call0 rfl rfl rfl rfl rfl rfl rfl rfl rn_4 (fun w hw => C_great (l := [t]) (n := 0) (⟨ho1.rdH eTk_len hw, fun s hs => by rw [List.mem_singleton] at hs; subst hs; exact ⟨h.sh hw, ht⟩⟩)) (GR_nil) ?_
  refine GT_st rfl rfl rfl rfl (V_move rfl rfl) ?_
  first | refine GT_splitNot (d := 16) rfl (fun q1 => ?_) (fun q1 => ?_) | refine GT_split (d := 16) rfl (fun q1 => ?_) (fun q1 => ?_) | refine GT_splitNotB (d := 16) rfl (fun q1 => ?_) (fun q1 => ?_) | refine GT_splitB (d := 16) rfl (fun q1 => ?_) (fun q1 => ?_)
  · skip
    refine GT_skip rfl rfl rfl rfl rfl (by decide) rfl rfl ?_
    refine GT_skip rfl rfl rfl rfl rfl (by decide) rfl rfl ?_
    refine GT_skip rfl rfl rfl rfl rfl (by decide) rfl rfl ?_
    refine GT_skip rfl rfl rfl rfl rfl (by decide) rfl rfl ?_
    refine GT_skip rfl rfl rfl rfl rfl (by decide) rfl rfl ?_
    refine GT_skip rfl rfl rfl rfl rfl (by decide) rfl rfl ?_
    refine GT_skip rfl rfl rfl rfl rfl (by decide) rfl rfl ?_
    refine GT_skip rfl rfl rfl rfl rfl (by decide) rfl rfl ?_
    refine GT_st rfl rfl rfl rfl (V_pick_t rfl rfl rfl) ?_
    refine GT_st rfl rfl rfl rfl (V_move rfl rfl) ?_
    refine GT_skip rfl rfl rfl rfl rfl (by decide) rfl rfl ?_
    refine GT_skip rfl rfl rfl rfl rfl (by decide) rfl rfl ?_
    refine GT_skip rfl rfl rfl rfl rfl (by decide) rfl rfl ?_
    refine GT_st rfl rfl rfl rfl (V_pick_t rfl rfl rfl) ?_
    refine GT_nil ?_
    refine GE_cond_t rfl ?_
    refine GE_seq ?_
    refine GE_slots (L' := []) trivial ?_
    refine GE_plain (.ld 0 [] (.st 1 .nil)) rfl ?_
    refine GT_call0 rfl rfl rfl rfl rfl rfl rfl rfl rn_5 (fun w hw => C_Works) (GR_nil) ?_
    refine GT_st rfl rfl rfl rfl (V_assign rfl rfl) ?_
    refine GT_nil ?_
    refine GE_ret Tryd.func3 rfl (fun w hw => ⟨?_, hw.nil⟩)
    rfl
  · skip
    refine GT_st_g rfl rfl rfl rfl rfl rfl rfl (V_move rfl rfl) ?_
    refine GT_st_g rfl rfl rfl rfl rfl rfl rfl (V_len rfl Tryd.underlying25 rfl) ?_
    refine GT_st_g rfl rfl rfl rfl rfl rfl rfl (V_gtr rfl rfl rfl) ?_
    refine GT_st_g rfl rfl rfl rfl rfl rfl rfl (V_move rfl rfl) ?_
    first | refine GT_splitNot (d := 20) rfl (fun q2 => ?_) (fun q2 => ?_) | refine GT_split (d := 20) rfl (fun q2 => ?_) (fun q2 => ?_) | refine GT_splitNotB (d := 20) rfl (fun q2 => ?_) (fun q2 => ?_) | refine GT_splitB (d := 20) rfl (fun q2 => ?_) (fun q2 => ?_)
    · skip
      refine GT_st_g rfl rfl rfl rfl rfl rfl rfl (V_move rfl rfl) ?_
      refine GT_st_g rfl rfl rfl rfl rfl rfl rfl (V_len rfl Tryd.underlying25 rfl) ?_
      refine GT_st_g rfl rfl rfl rfl rfl rfl rfl (V_leq rfl rfl rfl) ?_
      refine GT_st_g rfl rfl rfl rfl rfl rfl rfl (V_pick_t rfl rfl rfl) ?_
      refine GT_st rfl rfl rfl rfl (V_pick_f rfl rfl rfl) ?_
      refine GT_st rfl rfl rfl rfl (V_move rfl rfl) ?_
      first | refine GT_splitNot (d := 26) rfl (fun q3 => ?_) (fun q3 => ?_) | refine GT_split (d := 26) rfl (fun q3 => ?_) (fun q3 => ?_) | refine GT_splitNotB (d := 26) rfl (fun q3 => ?_) (fun q3 => ?_) | refine GT_splitB (d := 26) rfl (fun q3 => ?_) (fun q3 => ?_)
      · skip
        refine GT_skip rfl rfl rfl rfl rfl (by decide) rfl rfl ?_
        refine GT_skip rfl rfl rfl rfl rfl (by decide) rfl rfl ?_
        refine GT_skip rfl rfl rfl rfl rfl (by decide) rfl rfl ?_
        refine GT_st rfl rfl rfl rfl (V_pick_t rfl rfl rfl) ?_
        refine GT_nil ?_
        refine GE_cond_t rfl ?_
        refine GE_seq ?_
        refine GE_slots (L' := []) trivial ?_
        refine GE_plain (.ld 0 [] (.st 1 .nil)) rfl ?_
        refine GT_call0 rfl rfl rfl rfl rfl rfl rfl rfl rn_5 (fun w hw => C_Works) (GR_nil) ?_
        refine GT_st rfl rfl rfl rfl (V_assign rfl rfl) ?_
        refine GT_nil ?_
        refine GE_ret Tryd.func3 rfl (fun w hw => ⟨?_, hw.nil⟩)
        rfl
      · skip
        refine GT_st_g rfl rfl rfl rfl rfl rfl rfl (V_move rfl rfl) ?_
        refine GT_st_g rfl rfl rfl rfl rfl rfl rfl (V_len rfl Tryd.underlying25 rfl) ?_
        refine GT_st_g rfl rfl rfl rfl rfl rfl rfl (V_gtr rfl rfl rfl) ?_
        refine GT_st rfl rfl rfl rfl (V_pick_f rfl rfl rfl) ?_
        refine GT_nil ?_
        first | refine GE_condNot rfl (fun h1 => ?_) (fun h1 => ?_) | refine GE_cond rfl (fun h1 => ?_) (fun h1 => ?_) | refine GE_condNotB rfl (fun h1 => ?_) (fun h1 => ?_) | refine GE_condB rfl (fun h1 => ?_) (fun h1 => ?_)
        · skip
          refine GE_seq ?_
          refine GE_slots (L' := []) trivial ?_
          refine GE_plain (.ld 0 [] (.st 1 .nil)) rfl ?_
          refine GT_call0 rfl rfl rfl rfl rfl rfl rfl rfl rn_5 (fun w hw => C_Works) (GR_nil) ?_
          refine GT_st rfl rfl rfl rfl (V_assign rfl rfl) ?_
          refine GT_nil ?_
          refine GE_ret Tryd.func3 rfl (fun w hw => ⟨?_, hw.nil⟩)
          rfl
        · skip
          refine GE_skip ?_
          refine GE_seq ?_
          refine GE_slots (L' := [(1, _), (2, _)]) ⟨rfl, rfl, trivial⟩ ?_
          refine GE_plain (.st 0 (.ld 1 [] (.st 2 (.st 3 (.st 4 (.st 5 (.st 6 .nil))))))) rfl ?_
          refine GT_st rfl rfl rfl rfl (V_loadN (vs := [_, _]) rfl rfl ag_24 sz_24 rfl (CellsAt.item rfl)) ?_
          refine GT_call rfl rfl rfl rfl rfl rfl rfl rfl rn_6 (fun w hw => C_Pack (h.sh hw) ht.1) (fun _ _ => GR_nil) (fun x hx => ?_)
          refine GT_st rfl rfl rfl rfl (V_move rfl rfl) ?_
          refine GT_st rfl rfl rfl rfl (V_extract rfl rfl rfl) ?_
          refine GT_st rfl rfl rfl rfl (V_extract rfl rfl rfl) ?_
          refine GT_st rfl rfl rfl rfl (V_assign rfl rfl) ?_
          refine GT_st rfl rfl rfl rfl (V_assign rfl rfl) ?_
          refine GT_nil ?_
          refine GE_seq ?_
          refine GE_slots (L' := [(1, _), (2, _), (5, _), (6, _)]) ⟨rfl, rfl, rfl, rfl, trivial⟩ ?_
          refine GE_plain (.st 0 (.ld 1 [] (.st 2 (.st 3 (.st 4 (.st 5 (.st 6 .nil))))))) rfl ?_
          refine GT_st rfl rfl rfl rfl (V_loadN (vs := [_, _]) rfl rfl ag_24 sz_24 rfl (CellsAt.item rfl)) ?_
          refine GT_call rfl rfl rfl rfl rfl rfl rfl rfl rn_7 (fun w hw => C_rPack (h.sh hw) ht.2.2) (fun _ _ => GR_nil) (fun y hy => ?_)
          refine GT_st rfl rfl rfl rfl (V_move rfl rfl) ?_
          refine GT_st rfl rfl rfl rfl (V_extract rfl rfl rfl) ?_
          refine GT_st rfl rfl rfl rfl (V_extract rfl rfl rfl) ?_
          refine GT_st rfl rfl rfl rfl (V_assign rfl rfl) ?_
          refine GT_st rfl rfl rfl rfl (V_assign rfl rfl) ?_
          refine GT_nil ?_
          refine GE_seq ?_
          refine GE_slots (L' := [(1, _), (5, _), (6, _), (7, _), (8, _)]) ⟨rfl, rfl, rfl, rfl, rfl, trivial⟩ ?_
          refine GE_plain (.st 0 (.ld 1 [] (.st 2 (.st 3 (.st 4 (.ld 5 [] (.ld 6 [] (.st 7 .nil)))))))) rfl ?_
          refine GT_st rfl rfl rfl rfl (V_move rfl rfl) ?_
          refine GT_call rfl rfl rfl rfl rfl rfl rfl rfl rn_8 (fun w hw => C_Unpack (hb.sh hw) hc.1) (fun _ _ => GR_nil) (fun u hu => ?_)
          refine GT_st rfl rfl rfl rfl (V_move rfl rfl) ?_
          refine GT_st rfl rfl rfl rfl (V_extract rfl rfl rfl) ?_
          refine GT_st rfl rfl rfl rfl (V_extract rfl rfl rfl) ?_
          refine GT_alloc rfl rfl rfl rfl rfl zc_24 (fun _ => GR_nil) (fun b9 => ?_)
          refine GT_store (vs := [_, _]) (l' := [_, _]) rfl rfl rfl rfl rfl rfl rfl sz_24 rfl rfl (Nat.le_of_ble_eq_true rfl) rfl (GR_nil) ?_
          refine GT_st rfl rfl rfl rfl (V_assign rfl rfl) ?_
          refine GT_nil ?_
          refine GE_seq ?_
          refine GE_slots (L' := [(1, _), (5, _), (6, _), (7, _), (8, _), (9, _), (10, _)]) ⟨rfl, rfl, rfl, rfl, rfl, rfl, rfl, trivial⟩ ?_
          refine GE_plain (.st 0 (.ld 1 [] (.st 2 (.st 3 (.st 4 (.ld 5 [] (.ld 6 [] (.st 7 .nil)))))))) rfl ?_
          refine GT_st rfl rfl rfl rfl (V_move rfl rfl) ?_
          refine GT_call rfl rfl rfl rfl rfl rfl rfl rfl rn_9 (fun w hw => C_rUnpack (hb.sh hw) hc.1) (fun _ _ => GR_nil) (fun v hv => ?_)
          refine GT_st rfl rfl rfl rfl (V_move rfl rfl) ?_
          refine GT_st rfl rfl rfl rfl (V_extract rfl rfl rfl) ?_
          refine GT_st rfl rfl rfl rfl (V_extract rfl rfl rfl) ?_
          refine GT_alloc rfl rfl rfl rfl rfl zc_24 (fun _ => GR_nil) (fun b11 => ?_)
          refine GT_store (vs := [_, _]) (l' := [_, _]) rfl rfl rfl rfl rfl rfl rfl sz_24 rfl rfl (Nat.le_of_ble_eq_true rfl) rfl (GR_nil) ?_
          refine GT_st rfl rfl rfl rfl (V_assign rfl rfl) ?_
          refine GT_nil ?_
          refine GE_seq ?_
          refine GE_slots (L' := [(5, _), (6, _), (7, _), (8, _), (9, _), (10, _), (11, _), (12, _)]) ⟨rfl, rfl, rfl, rfl, rfl, rfl, rfl, rfl, trivial⟩ ?_
          refine GE_plain (.st 0 (.ld 1 [] (.st 2 (.ld 3 [] (.st 4 (.st 5 (.st 6 (.st 7 (.st 8 (.st 9 (.st 10 (.st 11 (.st 12 (.ld 13 [] (.st 14 (.st 15 (.st 16 (.st 17 (.st 18 (.st 19 (.st 20 (.ld 21 [] (.st 22 (.st 23 .nil)))))))))))))))))))))))) rfl ?_
          refine GT_st rfl rfl rfl rfl (V_move rfl rfl) ?_
          refine GT_ldv rfl rfl rfl rfl rfl (V_bytesStr rfl rfl Tryd.underlying25 Tryd.underlying5 Tryd.underlying9 (fun w m => hx.rdH eU_len m)) (GR_nil) ?_
          refine GT_st rfl rfl rfl rfl (V_move rfl rfl) ?_
          refine GT_ldv rfl rfl rfl rfl rfl (V_bytesStr rfl rfl Tryd.underlying25 Tryd.underlying5 Tryd.underlying9 (fun w m => hy.rdH eU_len m)) (GR_nil) ?_
          refine GT_st rfl rfl rfl rfl (V_isT (V_eqlStr rfl rfl rfl) rfl) ?_
          refine GT_st rfl rfl rfl rfl (V_move rfl rfl) ?_
          refine GT_st_g rfl rfl rfl rfl rfl rfl rfl (V_move rfl rfl) ?_
          refine GT_st_g rfl rfl rfl rfl rfl rfl rfl (V_move rfl rfl) ?_
          refine GT_st_g rfl rfl rfl rfl rfl rfl rfl (V_isT (V_eql rfl rfl rfl) rfl) ?_
          refine GT_st rfl rfl rfl rfl (V_pick_t rfl rfl rfl) ?_
          refine GT_st rfl rfl rfl rfl (V_move rfl rfl) ?_
          refine GT_st_g rfl rfl rfl rfl rfl rfl rfl (V_loadN (vs := [_, _]) rfl rfl ag_24 sz_24 rfl (CellsAt.item rfl)) ?_
          refine GT_st_g rfl rfl rfl rfl rfl rfl rfl (V_loadN (vs := [_, _]) rfl rfl ag_24 sz_24 rfl (CellsAt.item rfl)) ?_
          refine GT_call0_g rfl rfl rfl rfl rfl rfl rfl rfl rfl rfl rfl rn_10 (fun w hw => C_sameTake (hu.rdH eSam_len hw) (hv.rdH eSam_len hw) (by rw [un_eq]) (by rw [un_eq]) (by omega)) (GR_nil) ?_
          refine GT_st rfl rfl rfl rfl (V_pick_t rfl rfl rfl) ?_
          refine GT_st rfl rfl rfl rfl (V_move rfl rfl) ?_
          refine GT_st_g rfl rfl rfl rfl rfl rfl rfl (V_move rfl rfl) ?_
          refine GT_st_g rfl rfl rfl rfl rfl rfl rfl (V_move rfl rfl) ?_
          refine GT_st_g rfl rfl rfl rfl rfl rfl rfl (V_isT (V_eql rfl rfl rfl) (by rw [un_eq])) ?_
          refine GT_st rfl rfl rfl rfl (V_pick_t rfl rfl rfl) ?_
          refine GT_st rfl rfl rfl rfl (V_move rfl rfl) ?_
          refine GT_call0_g rfl rfl rfl rfl rfl rfl rfl rfl rfl rfl rfl rn_5 (fun w hw => C_Works) (GR_nil) ?_
          refine GT_st rfl rfl rfl rfl (V_pick_t rfl rfl rfl) ?_
          refine GT_st rfl rfl rfl rfl (V_assign rfl rfl) ?_
          refine GT_nil ?_
          refine GE_ret Tryd.func3 rfl (fun w hw => ⟨?_, hw.nil⟩)
          rfl
    · skip
      refine GT_skip rfl rfl rfl rfl rfl (by decide) rfl rfl ?_
      refine GT_skip rfl rfl rfl rfl rfl (by decide) rfl rfl ?_
      refine GT_skip rfl rfl rfl rfl rfl (by decide) rfl rfl ?_
      refine GT_st_g rfl rfl rfl rfl rfl rfl rfl (V_pick_f rfl rfl rfl) ?_
      refine GT_st rfl rfl rfl rfl (V_pick_f rfl rfl rfl) ?_
      refine GT_st rfl rfl rfl rfl (V_move rfl rfl) ?_
      refine GT_st_g rfl rfl rfl rfl rfl rfl rfl (V_move rfl rfl) ?_
      refine GT_st_g rfl rfl rfl rfl rfl rfl rfl (V_len rfl Tryd.underlying25 rfl) ?_
      refine GT_st_g rfl rfl rfl rfl rfl rfl rfl (V_gtr rfl rfl rfl) ?_
      refine GT_st rfl rfl rfl rfl (V_pick_f rfl rfl rfl) ?_
      refine GT_nil ?_
      first | refine GE_condNot rfl (fun h1 => ?_) (fun h1 => ?_) | refine GE_cond rfl (fun h1 => ?_) (fun h1 => ?_) | refine GE_condNotB rfl (fun h1 => ?_) (fun h1 => ?_) | refine GE_condB rfl (fun h1 => ?_) (fun h1 => ?_)
      · skip
        refine GE_seq ?_
        refine GE_slots (L' := []) trivial ?_
        refine GE_plain (.ld 0 [] (.st 1 .nil)) rfl ?_
        refine GT_call0 rfl rfl rfl rfl rfl rfl rfl rfl rn_5 (fun w hw => C_Works) (GR_nil) ?_
        refine GT_st rfl rfl rfl rfl (V_assign rfl rfl) ?_
        refine GT_nil ?_
        refine GE_ret Tryd.func3 rfl (fun w hw => ⟨?_, hw.nil⟩)
        rfl
      · skip
        refine GE_skip ?_
        refine GE_seq ?_
        refine GE_slots (L' := [(1, _), (2, _)]) ⟨rfl, rfl, trivial⟩ ?_
        refine GE_plain (.st 0 (.ld 1 [] (.st 2 (.st 3 (.st 4 (.st 5 (.st 6 .nil))))))) rfl ?_
        refine GT_st rfl rfl rfl rfl (V_loadN (vs := [_, _]) rfl rfl ag_24 sz_24 rfl (CellsAt.item rfl)) ?_
        refine GT_call rfl rfl rfl rfl rfl rfl rfl rfl rn_6 (fun w hw => C_Pack (h.sh hw) ht.1) (fun _ _ => GR_nil) (fun x hx => ?_)
        refine GT_st rfl rfl rfl rfl (V_move rfl rfl) ?_
        refine GT_st rfl rfl rfl rfl (V_extract rfl rfl rfl) ?_
        refine GT_st rfl rfl rfl rfl (V_extract rfl rfl rfl) ?_
        refine GT_st rfl rfl rfl rfl (V_assign rfl rfl) ?_
        refine GT_st rfl rfl rfl rfl (V_assign rfl rfl) ?_
        refine GT_nil ?_
        refine GE_seq ?_
        refine GE_slots (L' := [(1, _), (2, _), (5, _), (6, _)]) ⟨rfl, rfl, rfl, rfl, trivial⟩ ?_
        refine GE_plain (.st 0 (.ld 1 [] (.st 2 (.st 3 (.st 4 (.st 5 (.st 6 .nil))))))) rfl ?_
        refine GT_st rfl rfl rfl rfl (V_loadN (vs := [_, _]) rfl rfl ag_24 sz_24 rfl (CellsAt.item rfl)) ?_
        refine GT_call rfl rfl rfl rfl rfl rfl rfl rfl rn_7 (fun w hw => C_rPack (h.sh hw) ht.2.2) (fun _ _ => GR_nil) (fun y hy => ?_)
        refine GT_st rfl rfl rfl rfl (V_move rfl rfl) ?_
        refine GT_st rfl rfl rfl rfl (V_extract rfl rfl rfl) ?_
        refine GT_st rfl rfl rfl rfl (V_extract rfl rfl rfl) ?_
        refine GT_st rfl rfl rfl rfl (V_assign rfl rfl) ?_
        refine GT_st rfl rfl rfl rfl (V_assign rfl rfl) ?_
        refine GT_nil ?_
        refine GE_seq ?_
        refine GE_slots (L' := [(1, _), (5, _), (6, _), (7, _), (8, _)]) ⟨rfl, rfl, rfl, rfl, rfl, trivial⟩ ?_
        refine GE_plain (.st 0 (.ld 1 [] (.st 2 (.st 3 (.st 4 (.ld 5 [] (.ld 6 [] (.st 7 .nil)))))))) rfl ?_
        refine GT_st rfl rfl rfl rfl (V_move rfl rfl) ?_
        refine GT_call rfl rfl rfl rfl rfl rfl rfl rfl rn_8 (fun w hw => C_Unpack (hb.sh hw) hc.1) (fun _ _ => GR_nil) (fun u hu => ?_)
        refine GT_st rfl rfl rfl rfl (V_move rfl rfl) ?_
        refine GT_st rfl rfl rfl rfl (V_extract rfl rfl rfl) ?_
        refine GT_st rfl rfl rfl rfl (V_extract rfl rfl rfl) ?_
        refine GT_alloc rfl rfl rfl rfl rfl zc_24 (fun _ => GR_nil) (fun b9 => ?_)
        refine GT_store (vs := [_, _]) (l' := [_, _]) rfl rfl rfl rfl rfl rfl rfl sz_24 rfl rfl (Nat.le_of_ble_eq_true rfl) rfl (GR_nil) ?_
        refine GT_st rfl rfl rfl rfl (V_assign rfl rfl) ?_
        refine GT_nil ?_
        refine GE_seq ?_
        refine GE_slots (L' := [(1, _), (5, _), (6, _), (7, _), (8, _), (9, _), (10, _)]) ⟨rfl, rfl, rfl, rfl, rfl, rfl, rfl, trivial⟩ ?_
        refine GE_plain (.st 0 (.ld 1 [] (.st 2 (.st 3 (.st 4 (.ld 5 [] (.ld 6 [] (.st 7 .nil)))))))) rfl ?_
        refine GT_st rfl rfl rfl rfl (V_move rfl rfl) ?_
        refine GT_call rfl rfl rfl rfl rfl rfl rfl rfl rn_9 (fun w hw => C_rUnpack (hb.sh hw) hc.1) (fun _ _ => GR_nil) (fun v hv => ?_)
        refine GT_st rfl rfl rfl rfl (V_move rfl rfl) ?_
        refine GT_st rfl rfl rfl rfl (V_extract rfl rfl rfl) ?_
        refine GT_st rfl rfl rfl rfl (V_extract rfl rfl rfl) ?_
        refine GT_alloc rfl rfl rfl rfl rfl zc_24 (fun _ => GR_nil) (fun b11 => ?_)
        refine GT_store (vs := [_, _]) (l' := [_, _]) rfl rfl rfl rfl rfl rfl rfl sz_24 rfl rfl (Nat.le_of_ble_eq_true rfl) rfl (GR_nil) ?_
        refine GT_st rfl rfl rfl rfl (V_assign rfl rfl) ?_
        refine GT_nil ?_
        refine GE_seq ?_
        refine GE_slots (L' := [(5, _), (6, _), (7, _), (8, _), (9, _), (10, _), (11, _), (12, _)]) ⟨rfl, rfl, rfl, rfl, rfl, rfl, rfl, rfl, trivial⟩ ?_
        refine GE_plain (.st 0 (.ld 1 [] (.st 2 (.ld 3 [] (.st 4 (.st 5 (.st 6 (.st 7 (.st 8 (.st 9 (.st 10 (.st 11 (.st 12 (.ld 13 [] (.st 14 (.st 15 (.st 16 (.st 17 (.st 18 (.st 19 (.st 20 (.ld 21 [] (.st 22 (.st 23 .nil)))))))))))))))))))))))) rfl ?_
        refine GT_st rfl rfl rfl rfl (V_move rfl rfl) ?_
        refine GT_ldv rfl rfl rfl rfl rfl (V_bytesStr rfl rfl Tryd.underlying25 Tryd.underlying5 Tryd.underlying9 (fun w m => hx.rdH eU_len m)) (GR_nil) ?_
        refine GT_st rfl rfl rfl rfl (V_move rfl rfl) ?_
        refine GT_ldv rfl rfl rfl rfl rfl (V_bytesStr rfl rfl Tryd.underlying25 Tryd.underlying5 Tryd.underlying9 (fun w m => hy.rdH eU_len m)) (GR_nil) ?_
        refine GT_st rfl rfl rfl rfl (V_isT (V_eqlStr rfl rfl rfl) rfl) ?_
        refine GT_st rfl rfl rfl rfl (V_move rfl rfl) ?_
        refine GT_st_g rfl rfl rfl rfl rfl rfl rfl (V_move rfl rfl) ?_
        refine GT_st_g rfl rfl rfl rfl rfl rfl rfl (V_move rfl rfl) ?_
        refine GT_st_g rfl rfl rfl rfl rfl rfl rfl (V_isT (V_eql rfl rfl rfl) rfl) ?_
        refine GT_st rfl rfl rfl rfl (V_pick_t rfl rfl rfl) ?_
        refine GT_st rfl rfl rfl rfl (V_move rfl rfl) ?_
        refine GT_st_g rfl rfl rfl rfl rfl rfl rfl (V_loadN (vs := [_, _]) rfl rfl ag_24 sz_24 rfl (CellsAt.item rfl)) ?_
        refine GT_st_g rfl rfl rfl rfl rfl rfl rfl (V_loadN (vs := [_, _]) rfl rfl ag_24 sz_24 rfl (CellsAt.item rfl)) ?_
        refine GT_call0_g rfl rfl rfl rfl rfl rfl rfl rfl rfl rfl rfl rn_10 (fun w hw => C_sameTake (hu.rdH eSam_len hw) (hv.rdH eSam_len hw) (by rw [un_eq]) (by rw [un_eq]) (by omega)) (GR_nil) ?_
        refine GT_st rfl rfl rfl rfl (V_pick_t rfl rfl rfl) ?_
        refine GT_st rfl rfl rfl rfl (V_move rfl rfl) ?_
        refine GT_st_g rfl rfl rfl rfl rfl rfl rfl (V_move rfl rfl) ?_
        refine GT_st_g rfl rfl rfl rfl rfl rfl rfl (V_move rfl rfl) ?_
        refine GT_st_g rfl rfl rfl rfl rfl rfl rfl (V_isT (V_eql rfl rfl rfl) (by rw [un_eq])) ?_
        refine GT_st rfl rfl rfl rfl (V_pick_t rfl rfl rfl) ?_
        refine GT_st rfl rfl rfl rfl (V_move rfl rfl) ?_
        refine GT_call0_g rfl rfl rfl rfl rfl rfl rfl rfl rfl rfl rfl rn_5 (fun w hw => C_Works) (GR_nil) ?_
        refine GT_st rfl rfl rfl rfl (V_pick_t rfl rfl rfl) ?_
        refine GT_st rfl rfl rfl rfl (V_assign rfl rfl) ?_
        refine GT_nil ?_
        refine GE_ret Tryd.func3 rfl (fun w hw => ⟨?_, hw.nil⟩)
        rfl
end
end Go.Proofs.YtdcjgjopmicidaaDoor
