/- ListenKnown, walked. -/
import Derived.Test.YtfaggcmcfhljpaaLih
namespace Go.Proofs.Ytfaggcmcfhljpaa
open Go.Sx Go.Proofs

def exS : List Sus := [⟨1, 2, [true, true, true, true, true, true]⟩, ⟨1, 4, [false, false, true, false, false, true]⟩, ⟨2, 6, [false, false, false, true, true, false]⟩, ⟨3, 11, [false, true, false, false, false, false]⟩]
def exW : List (List Int) := [[10, 11, 12, 13, 14, 15], [12, 15], [13, 14], [11]]
theorem kn_mem : ∀ i : Fin 4, exS.getD i.val default ∈ causS exPl exDs 0 := by decide +kernel
theorem kn_has : ∀ i : Fin 4, hasS exDs (exS.getD i.val default) = exW.getD i.val default := by decide +kernel
theorem kn_len : ∀ i : Fin 4, (exW.getD i.val default).length ≤ 6 := by decide
theorem kn_room : Room exPl exDs 0 := beginE_zero.1 (by decide +kernel)
theorem kn_hear : hearE exPl exDs 0 exH2 = 0 := by decide +kernel
theorem kn_caus : (causL exPl exDs 0 exH2).length = 6 ∧ (causL exPl exDs 0 exH2).getD 2 default = ⟨1, 4⟩ := by decide +kernel
theorem kn_susp : (suspL exPl exDs 0 exH2).length = 5 ∧ (suspL exPl exDs 0 exH2).getD 3 default = 5 ∧ (suspL exPl exDs 0 exH2).getD 4 default = -1 := by decide +kernel
theorem kn_cert : certL exPl exDs 0 exH2 = [12] := by decide +kernel
theorem kn_poss : (possL exPl exDs 0 exH2).length = 6 := by decide +kernel
theorem kn_choose : chooseR 5 2 = (10, 0) := by decide +kernel
theorem kn_ways0 : waysR 10 2 3 0 = (56, 0) := by decide +kernel
theorem kn_ways1 : waysR 10 2 3 1 = (112, 0) := by decide +kernel
def eV (v : Value) : List Value := [v]
theorem eV_len (v : Value) : (eV v).length = 1 := rfl
section
variable {w : World}
set_option maxRecDepth 10000 in
set_option maxHeartbeats 2000000 in
theorem L_ListenKnown : Con0 Try.prog 10 [] w (.bool true) := by
  refine Ret_of (vs := []) hm none' Try.func10 rfl Try.ntmps10 rfl ?_
  dsimp only [slotsOf]
  refine GE_seq ?_
  refine GE_plain (.st 0 .nil) rfl ?_
  refine GT_st rfl rfl rfl rfl (V_assign rfl rfl) ?_
  refine GT_nil ?_
  refine GE_seq ?_
  refine GE_plain (.ld 0 [] (.st 1 (.st 2 (.st 3 (.st 4 (.st 5 .nil)))))) rfl ?_
  refine GT_call rfl rfl rfl rfl rfl rfl rfl rfl rn_34 (fun w hw => C_law09_Example) (fun _ _ => GR_nil) (fun y _ => ?_)
  refine GT_st rfl rfl rfl rfl (V_move rfl rfl) ?_
  refine GT_st rfl rfl rfl rfl (V_extract rfl rfl rfl) ?_
  refine GT_st rfl rfl rfl rfl (V_extract rfl rfl rfl) ?_
  refine GT_st rfl rfl rfl rfl (V_assign rfl rfl) ?_
  refine GT_st rfl rfl rfl rfl (V_assign rfl rfl) ?_
  refine GT_nil ?_
  refine GE_seq ?_
  refine GE_slots (L' := [(1, _), (2, _)]) ⟨rfl, rfl, trivial⟩ ?_
  refine GE_plain (.ld 0 [] (.st 1 (.st 2 (.st 3 (.st 4 (.st 5 .nil)))))) rfl ?_
  refine GT_call0 rfl rfl rfl rfl rfl rfl rfl rfl rn_14 (fun w hw => C_listen_Choose) (GR_nil) ?_
  rw [kn_choose]; dsimp only
  refine GT_st rfl rfl rfl rfl (V_move rfl rfl) ?_
  refine GT_st rfl rfl rfl rfl (V_extract rfl rfl rfl) ?_
  refine GT_st rfl rfl rfl rfl (V_extract rfl rfl rfl) ?_
  refine GT_st rfl rfl rfl rfl (V_assign rfl rfl) ?_
  refine GT_st rfl rfl rfl rfl (V_assign rfl rfl) ?_
  refine GT_nil ?_
  refine GE_seq ?_
  refine GE_slots (L' := [(1, _), (2, _), (3, _), (4, _)]) ⟨rfl, rfl, rfl, rfl, trivial⟩ ?_
  refine GE_plain (.ld 0 [] (.st 1 (.st 2 (.st 3 (.st 4 (.st 5 .nil)))))) rfl ?_
  refine GT_call0 rfl rfl rfl rfl rfl rfl rfl rfl rn_15 (fun w hw => C_listen_Ways) (GR_nil) ?_
  rw [kn_ways0]; dsimp only
  refine GT_st rfl rfl rfl rfl (V_move rfl rfl) ?_
  refine GT_st rfl rfl rfl rfl (V_extract rfl rfl rfl) ?_
  refine GT_st rfl rfl rfl rfl (V_extract rfl rfl rfl) ?_
  refine GT_st rfl rfl rfl rfl (V_assign rfl rfl) ?_
  refine GT_st rfl rfl rfl rfl (V_assign rfl rfl) ?_
  refine GT_nil ?_
  refine GE_seq ?_
  refine GE_slots (L' := [(1, _), (2, _), (3, _), (4, _), (5, _), (6, _)]) ⟨rfl, rfl, rfl, rfl, rfl, rfl, trivial⟩ ?_
  refine GE_plain (.ld 0 [] (.st 1 (.st 2 (.st 3 (.st 4 (.st 5 .nil)))))) rfl ?_
  refine GT_call0 rfl rfl rfl rfl rfl rfl rfl rfl rn_15 (fun w hw => C_listen_Ways) (GR_nil) ?_
  rw [kn_ways1]; dsimp only
  refine GT_st rfl rfl rfl rfl (V_move rfl rfl) ?_
  refine GT_st rfl rfl rfl rfl (V_extract rfl rfl rfl) ?_
  refine GT_st rfl rfl rfl rfl (V_extract rfl rfl rfl) ?_
  refine GT_st rfl rfl rfl rfl (V_assign rfl rfl) ?_
  refine GT_st rfl rfl rfl rfl (V_assign rfl rfl) ?_
  refine GT_nil ?_
  refine GE_seq ?_
  refine GE_seq ?_
  refine GE_slots (L' := [(1, _), (2, _), (3, _), (4, _), (5, _), (6, _), (7, _), (8, _)]) ⟨rfl, rfl, rfl, rfl, rfl, rfl, rfl, rfl, trivial⟩ ?_
  refine GE_plain (.st 0 (.st 1 (.st 2 (.st 3 (.st 4 (.st 5 (.st 6 (.st 7 (.st 8 (.st 9 (.st 10 (.st 11 (.st 12 (.st 13 (.st 14 (.st 15 (.st 16 (.st 17 .nil)))))))))))))))))) rfl ?_
  refine GT_st rfl rfl rfl rfl (V_move rfl rfl) ?_
  refine GT_st rfl rfl rfl rfl (V_move rfl rfl) ?_
  refine GT_st rfl rfl rfl rfl (V_add rfl rfl rfl (wrap_i64 (by omega))) ?_
  refine GT_st rfl rfl rfl rfl (V_move rfl rfl) ?_
  refine GT_st rfl rfl rfl rfl (V_add rfl rfl rfl (wrap_i64 (by omega))) ?_
  refine GT_st rfl rfl rfl rfl (V_isF (V_neq rfl rfl rfl) (by decide)) ?_
  refine GT_st rfl rfl rfl rfl (V_move rfl rfl) ?_
  refine GT_st_g rfl rfl rfl rfl rfl rfl rfl (V_move rfl rfl) ?_
  refine GT_st_g rfl rfl rfl rfl rfl rfl rfl (V_isF (V_neq rfl rfl rfl) (by decide)) ?_
  refine GT_st rfl rfl rfl rfl (V_pick_f rfl rfl rfl) ?_
  refine GT_st rfl rfl rfl rfl (V_move rfl rfl) ?_
  refine GT_st_g rfl rfl rfl rfl rfl rfl rfl (V_move rfl rfl) ?_
  refine GT_st_g rfl rfl rfl rfl rfl rfl rfl (V_isF (V_neq rfl rfl rfl) (by decide)) ?_
  refine GT_st rfl rfl rfl rfl (V_pick_f rfl rfl rfl) ?_
  refine GT_st rfl rfl rfl rfl (V_move rfl rfl) ?_
  refine GT_st_g rfl rfl rfl rfl rfl rfl rfl (V_move rfl rfl) ?_
  refine GT_st_g rfl rfl rfl rfl rfl rfl rfl (V_isF (V_neq rfl rfl rfl) (by decide)) ?_
  refine GT_st rfl rfl rfl rfl (V_pick_f rfl rfl rfl) ?_
  refine GT_nil ?_
  refine GE_cond_f rfl ?_
  refine GE_skip ?_
  refine GE_seq ?_
  refine GE_slots (L' := [(1, _), (2, _)]) ⟨rfl, rfl, trivial⟩ ?_
  refine GE_plain (.st 0 (.st 1 (.st 2 (.st 3 (.ld 4 [] (.st 5 .nil)))))) rfl ?_
  refine GT_st rfl rfl rfl rfl (V_build (vs := [_, _]) rfl rfl zc_46 pl_46 sa_46 rfl) ?_
  refine GT_st rfl rfl rfl rfl (V_build (vs := [_, _]) rfl rfl zc_46 pl_46 sa_46 rfl) ?_
  refine GT_st rfl rfl rfl rfl (V_build (vs := [_, _]) rfl rfl zc_46 pl_46 sa_46 rfl) ?_
  refine GT_st rfl rfl rfl rfl (V_build (vs := [_, _]) rfl rfl zc_46 pl_46 sa_46 rfl) ?_
  refine GT_buildSlice (z := [_, _, _, _, _, _, _, _]) rfl rfl rfl rfl rfl Try.underlying39 zc_46 sz_46 (by decide) rfl rfl (fun _ => GR_nil) (fun b58 => ?_)
  refine GT_st rfl rfl rfl rfl (V_assign rfl rfl) ?_
  refine GT_nil ?_
  refine GE_seq ?_
  refine GE_slots (L' := [(1, _), (2, _), (9, _)]) ⟨rfl, rfl, rfl, trivial⟩ ?_
  refine GE_plain (.ld 0 [] (.ld 1 [] (.ld 2 [] (.ld 3 [] (.ld 4 [] (.st 5 .nil)))))) rfl ?_
  refine GT_buildSlice (z := [_, _, _, _, _, _]) rfl rfl rfl rfl rfl Try.underlying42 zc_2 sz_2 (by decide) rfl rfl (fun _ => GR_nil) (fun b59 => ?_)
  refine GT_buildSlice (z := [_, _]) rfl rfl rfl rfl rfl Try.underlying42 zc_2 sz_2 (by decide) rfl rfl (fun _ => GR_nil) (fun b60 => ?_)
  refine GT_buildSlice (z := [_, _]) rfl rfl rfl rfl rfl Try.underlying42 zc_2 sz_2 (by decide) rfl rfl (fun _ => GR_nil) (fun b61 => ?_)
  refine GT_buildSlice (z := [_]) rfl rfl rfl rfl rfl Try.underlying42 zc_2 sz_2 (by decide) rfl rfl (fun _ => GR_nil) (fun b62 => ?_)
  refine GT_buildSlice (z := [_, _, _, _]) rfl rfl rfl rfl rfl Try.underlying72 zc_42 sz_42 (by decide) rfl rfl (fun _ => GR_nil) (fun b63 => ?_)
  refine GT_st rfl rfl rfl rfl (V_assign rfl rfl) ?_
  refine GT_nil ?_
  refine GE_seq ?_
  refine GE_seq ?_
  refine GE_slots (L' := [(1, _), (2, _), (9, _), (10, _)]) ⟨rfl, rfl, rfl, rfl, trivial⟩ ?_
  refine GE_plain (.st 0 .nil) rfl ?_
  refine GT_st rfl rfl rfl rfl (V_assign rfl rfl) ?_
  refine GT_nil ?_
  refine GE_block ?_
  refine GE_to (GE_loop (ι := Nat) (fun i => 4 - i) (fun i => [(1, .slice (some ⟨y.1, 0, none⟩) exPl.length 7), (2, .slice (some ⟨y.2, 0, none⟩) exDs.length 6), (9, .slice (some ⟨b58, 0, none⟩) 4 4), (10, .slice (some ⟨b63, 0, none⟩) 4 4), (11, I i)]) (fun i => [(b63, blk [.slice (some ⟨b59, 0, none⟩) 6 6, .slice (some ⟨b60, 0, none⟩) 2 2, .slice (some ⟨b61, 0, none⟩) 2 2, .slice (some ⟨b62, 0, none⟩) 1 1] 42), (b62, blk ([11].flatMap eI) 2), (b61, blk ([13, 14].flatMap eI) 2), (b60, blk ([12, 15].flatMap eI) 2), (b59, blk ([10, 11, 12, 13, 14, 15].flatMap eI) 2), (b58, blk ((exS.map Sus.cau).flatMap eCau) 46), (y.2, blk (exDs.flatMap eDsc) 50), (y.1, blk (exPl.flatMap ePlt) 53)]) (fun i => i ≤ 4) ?_ 0 ?_) ⟨rfl, rfl, rfl, rfl, rfl, trivial⟩ (HS.cons rfl (HS.cons rfl (HS.cons rfl (HS.cons rfl (HS.cons rfl (HS.cons rfl (HS.eq HS.all rfl)))))))
  · intro i hi ih
    refine GE_seq ?_
    refine GE_seq ?_
    refine GE_plain (.st 0 (.st 1 .nil)) rfl ?_
    refine GT_st rfl rfl rfl rfl (V_move rfl rfl) ?_
    refine GT_st rfl rfl rfl rfl (V_lss rfl rfl rfl) ?_
    refine GT_nil ?_
    first | refine GE_condNot rfl (fun h1 => ?_) (fun h1 => ?_) | refine GE_cond rfl (fun h1 => ?_) (fun h1 => ?_) | refine GE_condNotB rfl (fun h1 => ?_) (fun h1 => ?_) | refine GE_condB rfl (fun h1 => ?_) (fun h1 => ?_)
    · have hil : i < 4 := (by omega); have hmem := kn_mem ⟨i, hil⟩; have hhas := kn_has ⟨i, hil⟩; have hlen := kn_len ⟨i, hil⟩; dsimp only at hmem hhas hlen; have hcg : (exS.map Sus.cau).getD i default = (exS.getD i default).cau := cau_get (by show i < 4; exact hil)
      obtain ⟨bq, cq, hbq, hrq⟩ : ∃ bq cq, [Value.slice (some ⟨b59, 0, none⟩) 6 6, .slice (some ⟨b60, 0, none⟩) 2 2, .slice (some ⟨b61, 0, none⟩) 2 2, .slice (some ⟨b62, 0, none⟩) 1 1][i]? = some (.slice (some ⟨bq, 0, none⟩) (exW.getD i default).length cq) ∧ ∀ {w0 : World} {M : Nat → Prop} {H : Items} {w : World}, SH w0 M H w → HFind b62 H (blk ([11].flatMap eI) 2) → HFind b61 H (blk ([13, 14].flatMap eI) 2) → HFind b60 H (blk ([12, 15].flatMap eI) 2) → HFind b59 H (blk ([10, 11, 12, 13, 14, 15].flatMap eI) 2) → RdL w 1 eI (some ⟨bq, 0, none⟩) (exW.getD i default) := (by rcases (show i = 0 ∨ i = 1 ∨ i = 2 ∨ i = 3 by omega) with rfl | rfl | rfl | rfl; exact ⟨b59, 6, rfl, fun m _ _ _ h4 => RdL.own' (h := h4) m eI_len⟩; exact ⟨b60, 2, rfl, fun m _ _ h3 _ => RdL.own' (h := h3) m eI_len⟩; exact ⟨b61, 2, rfl, fun m _ h2 _ _ => RdL.own' (h := h2) m eI_len⟩; exact ⟨b62, 1, rfl, fun m h1 _ _ _ => RdL.own' (h := h1) m eI_len⟩)
      refine GE_skip ?_
      refine GE_seq ?_
      refine GE_block ?_
      refine GE_seq ?_
      refine GE_plain (.st 0 (.st 1 (.st 2 (.st 3 (.st 4 (.st 5 (.ld 6 [] (.st 7 (.st 8 (.st 9 (.st 10 (.st 11 .nil)))))))))))) rfl ?_
      refine GT_st rfl rfl rfl rfl (V_move rfl rfl) ?_
      refine GT_st rfl rfl rfl rfl (V_move rfl rfl) ?_
      refine GT_st rfl rfl rfl rfl (V_move rfl rfl) ?_
      refine GT_st rfl rfl rfl rfl (V_move rfl rfl) ?_
      refine GT_st rfl rfl rfl rfl (V_index rfl rfl rfl Try.underlying39 sz_46 (k := i) rfl hil rfl) ?_
      refine GT_st rfl rfl rfl rfl (V_loadN (vs := [_, _]) rfl rfl ag_46 sz_46 rfl ((by intro j v hj; rw [add_add', show ad (some ⟨b58, 0, none⟩) = ⟨b58, 0, none⟩ from rfl, add_lit, Nat.zero_add]; exact CellAt.row (l := exS.map Sus.cau) eCau_len hil (by rw [hcg]; exact hj) rfl))) ?_
      refine GT_call rfl rfl rfl rfl rfl rfl rfl rfl rn_22 (fun w hw => C_Has (x := exS.getD i default) (p := exPl) (d := exDs) (side := 0) (c := 7) (c2 := 6) (RdL.own' hw ePlt_len) exPl_wf (RdL.own' hw eDsc_len) exDs_wf kn_room hmem) (fun _ _ => GR_nil) (fun u hu => ?_)
      rw [hhas] at hu ⊢
      refine GT_st rfl rfl rfl rfl (V_move rfl rfl) ?_
      refine GT_st rfl rfl rfl rfl (V_extract rfl rfl rfl) ?_
      refine GT_st rfl rfl rfl rfl (V_extract rfl rfl rfl) ?_
      refine GT_st rfl rfl rfl rfl (V_assign rfl rfl) ?_
      refine GT_st rfl rfl rfl rfl (V_assign rfl rfl) ?_
      refine GT_nil ?_
      refine GE_seq ?_
      refine GE_slots (L' := [(1, _), (2, _), (9, _), (10, _), (11, _), (12, _), (13, _)]) ⟨rfl, rfl, rfl, rfl, rfl, rfl, rfl, trivial⟩ ?_
      refine GE_plain (.st 0 (.st 1 (.st 2 (.st 3 (.st 4 (.st 5 (.st 6 (.st 7 (.ld 8 [] (.st 9 (.st 10 .nil))))))))))) rfl ?_
      refine GT_st rfl rfl rfl rfl (V_move rfl rfl) ?_
      refine GT_st rfl rfl rfl rfl (V_isF (V_neq rfl rfl rfl) (by decide)) ?_
      refine GT_st rfl rfl rfl rfl (V_move rfl rfl) ?_
      refine GT_st_g rfl rfl rfl rfl rfl rfl rfl (V_move rfl rfl) ?_
      refine GT_st_g rfl rfl rfl rfl rfl rfl rfl (V_move rfl rfl) ?_
      refine GT_st_g rfl rfl rfl rfl rfl rfl rfl (V_move rfl rfl) ?_
      refine GT_st_g rfl rfl rfl rfl rfl rfl rfl (V_index rfl rfl rfl Try.underlying72 sz_42 (k := i) rfl hil rfl) ?_
      refine GT_st_g rfl rfl rfl rfl rfl rfl rfl (V_load rfl rfl ag_42 ((by rw [show ad (some ⟨b63, 0, none⟩) = ⟨b63, 0, none⟩ from rfl, add_lit, Nat.zero_add, Nat.mul_one]; exact CellAt.item hbq))) ?_
      refine GT_call0_g rfl rfl rfl rfl rfl rfl rfl rfl rfl rfl rfl rn_23 (fun w hw => C_Same (hu.rdH eI_len hw) (hrq hw inferInstance inferInstance inferInstance inferInstance) (by omega)) (GR_nil) ?_
      rw [beq_self_eq_true]
      first | refine GT_st_g rfl rfl rfl rfl rfl rfl rfl (V_not rfl rfl) ?_ | refine GT_st_g rfl rfl rfl rfl rfl rfl rfl (V_notB rfl rfl) ?_
      refine GT_st rfl rfl rfl rfl (V_pick_f rfl rfl rfl) ?_
      refine GT_nil ?_
      refine GE_cond_f rfl ?_
      refine GE_skip ?_
      refine GE_inBlock ?_
      refine GE_slots (L' := [(1, _), (2, _), (9, _), (10, _), (11, _), (81, _), (82, _), (83, _), (84, _), (85, _), (86, _), (87, _)]) ⟨rfl, rfl, rfl, rfl, rfl, rfl, rfl, rfl, rfl, rfl, rfl, rfl, trivial⟩ ?_
      refine GE_plain (.st 0 (.st 1 (.ld 2 [] .nil))) rfl ?_
      refine GT_st rfl rfl rfl rfl (V_move rfl rfl) ?_
      refine GT_st rfl rfl rfl rfl (V_add rfl rfl rfl (wrap_i64 (by omega))) ?_
      refine GT_ldv rfl rfl rfl rfl rfl (V_assign rfl rfl) (GR_nil) ?_
      refine GT_nil ?_
      exact GE_to (ih (i + 1) (by omega) (by omega)) ⟨rfl, rfl, rfl, rfl, rfl, trivial⟩ (HS.cons rfl (HS.cons rfl (HS.cons rfl (HS.cons rfl (HS.cons rfl (HS.cons rfl (HS.cons rfl (HS.cons rfl HS.nil))))))))
    · skip
      refine GE_exit rfl ?_
      refine GE_seq ?_
      refine GE_slots (L' := [(1, _), (2, _)]) ⟨rfl, rfl, trivial⟩ ?_
      refine GE_plain (.st 0 (.ld 1 [] (.st 2 .nil))) rfl ?_
      refine GT_st rfl rfl rfl rfl (V_build (vs := [_, _]) rfl rfl zc_61 pl_61 sa_61 rfl) ?_
      refine GT_buildSlice (z := [_, _]) rfl rfl rfl rfl rfl Try.underlying54 zc_61 sz_61 (by decide) rfl rfl (fun _ => GR_nil) (fun b90 => ?_)
      refine GT_st rfl rfl rfl rfl (V_assign rfl rfl) ?_
      refine GT_nil ?_
      refine GE_seq ?_
      refine GE_plain (.st 0 (.st 1 (.st 2 (.ld 3 [] (.st 4 (.st 5 (.st 6 (.st 7 (.st 8 .nil))))))))) rfl ?_
      refine GT_st rfl rfl rfl rfl (V_move rfl rfl) ?_
      refine GT_st rfl rfl rfl rfl (V_move rfl rfl) ?_
      refine GT_st rfl rfl rfl rfl (V_move rfl rfl) ?_
      refine GT_call rfl rfl rfl rfl rfl rfl rfl rfl rn_21 (fun w hw => C_Causes (p := exPl) (d := exDs) (h := exH2) (side := 0) (c := 7) (c2 := 6) (c5 := 1) (RdL.own' hw ePlt_len) exPl_wf (RdL.own' hw eDsc_len) exDs_wf (RdL.own' hw eHrg_len)) (fun _ _ => GR_nil) (fun u hu => ?_)
      rw [kn_hear]
      refine GT_st rfl rfl rfl rfl (V_move rfl rfl) ?_
      refine GT_st rfl rfl rfl rfl (V_extract rfl rfl rfl) ?_
      refine GT_st rfl rfl rfl rfl (V_extract rfl rfl rfl) ?_
      refine GT_st rfl rfl rfl rfl (V_assign rfl rfl) ?_
      refine GT_st rfl rfl rfl rfl (V_assign rfl rfl) ?_
      refine GT_nil ?_
      refine GE_seq ?_
      refine GE_slots (L' := [(1, _), (2, _), (4, _), (14, _), (15, _)]) ⟨rfl, rfl, rfl, rfl, rfl, trivial⟩ ?_
      refine GE_plain (.st 0 (.st 1 (.st 2 (.ld 3 [] (.st 4 (.st 5 (.st 6 (.st 7 (.st 8 .nil))))))))) rfl ?_
      refine GT_st rfl rfl rfl rfl (V_move rfl rfl) ?_
      refine GT_st rfl rfl rfl rfl (V_move rfl rfl) ?_
      refine GT_st rfl rfl rfl rfl (V_move rfl rfl) ?_
      refine GT_call rfl rfl rfl rfl rfl rfl rfl rfl rn_33 (fun w hw => C_Suspects (p := exPl) (d := exDs) (h := exH2) (side := 0) (c := 7) (c2 := 6) (c5 := 1) (RdL.own' hw ePlt_len) exPl_wf (RdL.own' hw eDsc_len) exDs_wf (RdL.own' hw eHrg_len)) (fun _ _ => GR_nil) (fun v hv => ?_)
      rw [kn_hear]
      refine GT_st rfl rfl rfl rfl (V_move rfl rfl) ?_
      refine GT_st rfl rfl rfl rfl (V_extract rfl rfl rfl) ?_
      refine GT_st rfl rfl rfl rfl (V_extract rfl rfl rfl) ?_
      refine GT_st rfl rfl rfl rfl (V_assign rfl rfl) ?_
      refine GT_st rfl rfl rfl rfl (V_assign rfl rfl) ?_
      refine GT_nil ?_
      refine GE_seq ?_
      refine GE_slots (L' := [(1, _), (2, _), (4, _), (6, _), (14, _), (15, _), (16, _)]) ⟨rfl, rfl, rfl, rfl, rfl, rfl, rfl, trivial⟩ ?_
      refine GE_plain (.st 0 (.st 1 (.st 2 (.ld 3 [] (.st 4 (.st 5 (.st 6 (.st 7 (.st 8 .nil))))))))) rfl ?_
      refine GT_st rfl rfl rfl rfl (V_move rfl rfl) ?_
      refine GT_st rfl rfl rfl rfl (V_move rfl rfl) ?_
      refine GT_st rfl rfl rfl rfl (V_move rfl rfl) ?_
      refine GT_call rfl rfl rfl rfl rfl rfl rfl rfl rn_30 (fun w hw => C_Certain (p := exPl) (d := exDs) (h := exH2) (side := 0) (c := 7) (c2 := 6) (c5 := 1) (RdL.own' hw ePlt_len) exPl_wf (RdL.own' hw eDsc_len) exDs_wf (RdL.own' hw eHrg_len)) (fun _ _ => GR_nil) (fun e he => ?_)
      rw [kn_cert] at he ⊢; rw [kn_hear]
      refine GT_st rfl rfl rfl rfl (V_move rfl rfl) ?_
      refine GT_st rfl rfl rfl rfl (V_extract rfl rfl rfl) ?_
      refine GT_st rfl rfl rfl rfl (V_extract rfl rfl rfl) ?_
      refine GT_st rfl rfl rfl rfl (V_assign rfl rfl) ?_
      refine GT_st rfl rfl rfl rfl (V_assign rfl rfl) ?_
      refine GT_nil ?_
      refine GE_seq ?_
      refine GE_slots (L' := [(1, _), (2, _), (4, _), (6, _), (8, _), (14, _), (15, _), (16, _), (17, _)]) ⟨rfl, rfl, rfl, rfl, rfl, rfl, rfl, rfl, rfl, trivial⟩ ?_
      refine GE_plain (.st 0 (.st 1 (.st 2 (.ld 3 [] (.st 4 (.st 5 (.st 6 (.st 7 (.st 8 .nil))))))))) rfl ?_
      refine GT_st rfl rfl rfl rfl (V_move rfl rfl) ?_
      refine GT_st rfl rfl rfl rfl (V_move rfl rfl) ?_
      refine GT_st rfl rfl rfl rfl (V_move rfl rfl) ?_
      refine GT_call rfl rfl rfl rfl rfl rfl rfl rfl rn_31 (fun w hw => C_Possible (p := exPl) (d := exDs) (h := exH2) (side := 0) (c := 7) (c2 := 6) (c5 := 1) (RdL.own' hw ePlt_len) exPl_wf (RdL.own' hw eDsc_len) exDs_wf (RdL.own' hw eHrg_len)) (fun _ _ => GR_nil) (fun f hf => ?_)
      rw [kn_hear]
      refine GT_st rfl rfl rfl rfl (V_move rfl rfl) ?_
      refine GT_st rfl rfl rfl rfl (V_extract rfl rfl rfl) ?_
      refine GT_st rfl rfl rfl rfl (V_extract rfl rfl rfl) ?_
      refine GT_st rfl rfl rfl rfl (V_assign rfl rfl) ?_
      refine GT_st rfl rfl rfl rfl (V_assign rfl rfl) ?_
      refine GT_nil ?_
      refine GE_seq ?_
      refine GE_slots (L' := [(4, _), (6, _), (8, _), (15, _), (16, _), (17, _), (18, _), (19, _)]) ⟨rfl, rfl, rfl, rfl, rfl, rfl, rfl, rfl, trivial⟩ ?_
      refine GE_plain (.st 0 (.st 1 (.st 2 (.st 3 (.st 4 (.st 5 (.st 6 (.st 7 (.st 8 (.st 9 (.st 10 (.st 11 (.st 12 (.st 13 (.st 14 (.st 15 (.st 16 (.st 17 (.st 18 (.st 19 (.st 20 (.st 21 (.st 22 (.st 23 (.st 24 (.st 25 (.st 26 (.st 27 (.st 28 (.st 29 (.st 30 (.st 31 (.st 32 (.st 33 (.st 34 (.st 35 (.st 36 (.st 37 (.st 38 (.ld 39 [] (.ld 40 [] (.st 41 (.st 42 (.st 43 (.st 44 (.st 45 (.st 46 (.st 47 (.ld 48 [] (.st 49 (.st 50 .nil))))))))))))))))))))))))))))))))))))))))))))))))))) rfl ?_
      refine GT_st rfl rfl rfl rfl (V_move rfl rfl) ?_
      refine GT_st rfl rfl rfl rfl (V_move rfl rfl) ?_
      refine GT_st rfl rfl rfl rfl (V_add rfl rfl rfl (wrap_i64 (by omega))) ?_
      refine GT_st rfl rfl rfl rfl (V_move rfl rfl) ?_
      refine GT_st rfl rfl rfl rfl (V_add rfl rfl rfl (wrap_i64 (by omega))) ?_
      refine GT_st rfl rfl rfl rfl (V_move rfl rfl) ?_
      refine GT_st rfl rfl rfl rfl (V_add rfl rfl rfl (wrap_i64 (by omega))) ?_
      refine GT_st rfl rfl rfl rfl (V_isT (V_eql rfl rfl rfl) (by decide)) ?_
      refine GT_st rfl rfl rfl rfl (V_move rfl rfl) ?_
      refine GT_st_g rfl rfl rfl rfl rfl rfl rfl (V_move rfl rfl) ?_
      refine GT_st_g rfl rfl rfl rfl rfl rfl rfl (V_len rfl Try.underlying39 rfl) ?_
      refine GT_st_g rfl rfl rfl rfl rfl rfl rfl (V_isT (V_eql rfl rfl rfl) (by rw [kn_caus.1]; rfl)) ?_
      refine GT_st rfl rfl rfl rfl (V_pick_t rfl rfl rfl) ?_
      refine GT_st rfl rfl rfl rfl (V_move rfl rfl) ?_
      refine GT_st_g rfl rfl rfl rfl rfl rfl rfl (V_move rfl rfl) ?_
      refine GT_st_g rfl rfl rfl rfl rfl rfl rfl (V_index (k := 2) rfl rfl rfl Try.underlying39 sz_46 rfl (by rw [kn_caus.1]; decide) (hu.isSome (k := 2) (by rw [kn_caus.1]; decide))) ?_
      refine GT_st_g rfl rfl rfl rfl rfl rfl rfl (V_loadN (vs := [_, _]) rfl rfl ag_46 sz_46 rfl (CellsAt.ownE (k := 2) hu eCau_len (by rw [kn_caus.1]; decide) (by rw [kn_caus.2]; rfl))) ?_
      refine GT_st_g rfl rfl rfl rfl rfl rfl rfl (V_build (vs := [_, _]) rfl rfl zc_46 pl_46 sa_46 rfl) ?_
      refine GT_st_g rfl rfl rfl rfl rfl rfl rfl (V_eqlTwo rfl rfl rfl Try.underlying46 (by decide) (by decide) rfl rfl Try.underlying3 Try.underlying2 cau_stood cau_guard) ?_
      refine GT_st rfl rfl rfl rfl (V_pick_t rfl rfl rfl) ?_
      refine GT_st rfl rfl rfl rfl (V_move rfl rfl) ?_
      refine GT_st_g rfl rfl rfl rfl rfl rfl rfl (V_move rfl rfl) ?_
      refine GT_st_g rfl rfl rfl rfl rfl rfl rfl (V_len rfl Try.underlying66 rfl) ?_
      refine GT_st_g rfl rfl rfl rfl rfl rfl rfl (V_isT (V_eql rfl rfl rfl) (by rw [kn_susp.1]; rfl)) ?_
      refine GT_st rfl rfl rfl rfl (V_pick_t rfl rfl rfl) ?_
      refine GT_st rfl rfl rfl rfl (V_move rfl rfl) ?_
      refine GT_st_g rfl rfl rfl rfl rfl rfl rfl (V_move rfl rfl) ?_
      refine GT_st_g rfl rfl rfl rfl rfl rfl rfl (V_index (k := 3) rfl rfl rfl Try.underlying66 sz_3 rfl (by rw [kn_susp.1]; decide) (hv.isSome (k := 3) (by rw [kn_susp.1]; decide))) ?_
      refine GT_st_g rfl rfl rfl rfl rfl rfl rfl (V_load rfl rfl ag_3 (CellAt.own0 (k := 3) hv eI_len (by rw [kn_susp.1]; decide) (by rw [kn_susp.2.1]; rfl))) ?_
      refine GT_st_g rfl rfl rfl rfl rfl rfl rfl (V_isT (V_eql rfl rfl rfl) (by decide)) ?_
      refine GT_st rfl rfl rfl rfl (V_pick_t rfl rfl rfl) ?_
      refine GT_st rfl rfl rfl rfl (V_move rfl rfl) ?_
      refine GT_st_g rfl rfl rfl rfl rfl rfl rfl (V_move rfl rfl) ?_
      refine GT_st_g rfl rfl rfl rfl rfl rfl rfl (V_index (k := 4) rfl rfl rfl Try.underlying66 sz_3 rfl (by rw [kn_susp.1]; decide) (hv.isSome (k := 4) (by rw [kn_susp.1]; decide))) ?_
      refine GT_st_g rfl rfl rfl rfl rfl rfl rfl (V_load rfl rfl ag_3 (CellAt.own0 (k := 4) hv eI_len (by rw [kn_susp.1]; decide) (by rw [kn_susp.2.2]; rfl))) ?_
      refine GT_st_g rfl rfl rfl rfl rfl rfl rfl (V_isT (V_eql rfl rfl rfl) (by decide)) ?_
      refine GT_st rfl rfl rfl rfl (V_pick_t rfl rfl rfl) ?_
      refine GT_st rfl rfl rfl rfl (V_move rfl rfl) ?_
      refine GT_st_g rfl rfl rfl rfl rfl rfl rfl (V_move rfl rfl) ?_
      refine GT_buildSlice_g (z := [_]) rfl rfl rfl rfl rfl rfl rfl rfl Try.underlying42 zc_2 sz_2 (by decide) rfl rfl (fun _ => GR_nil) (fun b158 => ?_)
      refine GT_call0_g rfl rfl rfl rfl rfl rfl rfl rfl rfl rfl rfl rn_23 (fun w hw => C_Same (a := [12]) (b := [12]) (he.rdH eI_len hw) (RdL.own' hw eI_len) (by decide)) (GR_nil) ?_
      rw [beq_self_eq_true]
      refine GT_st rfl rfl rfl rfl (V_pick_t rfl rfl rfl) ?_
      refine GT_st rfl rfl rfl rfl (V_move rfl rfl) ?_
      refine GT_st_g rfl rfl rfl rfl rfl rfl rfl (V_move rfl rfl) ?_
      refine GT_st_g rfl rfl rfl rfl rfl rfl rfl (V_len rfl Try.underlying42 rfl) ?_
      refine GT_st_g rfl rfl rfl rfl rfl rfl rfl (V_isT (V_eql rfl rfl rfl) (by rw [kn_poss]; rfl)) ?_
      refine GT_st rfl rfl rfl rfl (V_pick_t rfl rfl rfl) ?_
      refine GT_st rfl rfl rfl rfl (V_move rfl rfl) ?_
      refine GT_call0_g rfl rfl rfl rfl rfl rfl rfl rfl rfl rfl rfl rn_13 (fun w hw => C_law09_Works) (GR_nil) ?_
      refine GT_st rfl rfl rfl rfl (V_pick_t rfl rfl rfl) ?_
      refine GT_st rfl rfl rfl rfl (V_assign rfl rfl) ?_
      refine GT_nil ?_
      refine GE_ret Try.func10 rfl (fun w hw => ⟨?_, hw.nil⟩)
      rfl
  · exact Nat.zero_le _
end
end Go.Proofs.Ytfaggcmcfhljpaa
