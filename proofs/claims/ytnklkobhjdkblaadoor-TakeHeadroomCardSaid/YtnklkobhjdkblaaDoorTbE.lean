/- TakeParted, walked. -/
import Derived.Test.YtnklkobhjdkblaaDoorTbC
import Derived.Test.YtnklkobhjdkblaaDoorTbD
import Derived.Test.YtnklkobhjdkblaaDoorTaF
import Derived.Test.YtnklkobhjdkblaaDoorSxK
namespace Go.Proofs.YtnklkobhjdkblaaDoor
open Go.Sx Go.Proofs Go.RowKit

theorem cut_rerr {l : List Tk} {p : List Prt} {n : Nat} {t : Int} (h : CutH l p n t) : rErr l p = 0 ↔ rErr l (p.take n) = 0 ∧ rErr l (cutP p n t) = 0 := by
  have e := cut_err h (va := vR l (p.take n)) (vb := vR l (cutP p n t)) (v := vR l p) vR_cutA vR_cutB
  have key : ∀ q, gErr l q = 0 → (rErr l q = 0 ↔ sErr (mix q (vR l q)) = 0) := by
    intro q hq
    rw [rErr, if_pos hq]
    show (if sErr (mix q (vR l q)) = 0 then (0 : Int) else 4) = 0 ↔ _
    split
    · rename_i h; exact ⟨fun _ => h, fun _ => rfl⟩
    · rename_i h; exact ⟨fun e => (by cases e), fun e => absurd e h⟩
  rw [key _ (gErr_zero.2 h.ok), key _ (gErr_zero.2 (cut_okA h)), key _ (gErr_zero.2 (cut_okB h)), e]
theorem rendL_len {l : List Tk} {p : List Prt} (h : ProgOk l p) : (rendL l p).length ≤ (fin p).toNat ∧ (rErr l p = 0 → (rendL l p).length = (fin p).toNat) := by
  unfold rendL
  split
  · rw [rend, mix_len]; exact ⟨Nat.le_refl _, fun _ => rfl⟩
  · rename_i hn; exact ⟨Nat.zero_le _, fun e => absurd e hn⟩
section
variable {w : World} {A A2 : Option Addr} {c c2 : Nat} {l : List Tk} {p : List Prt} {t : Int}
theorem C_ChkOk {n : Nat} (h : Tks w A l) (hp : RdL w 7 ePrt A2 p) (hn : n = p.length) (hg : ProgOk l p) : Con0 Tryd.prog 33 [.slice A l.length c, .slice A2 n c2] w (I 0) := by
  subst hn
  have := C_CheckProgramme (c := c) (c2 := c2) h hp
  rw [gErr_zero.2 hg] at this
  exact this
theorem C_RenderN {n : Nat} (h : Tks w A l) (hp : RdL w 7 ePrt A2 p) (hn : n = p.length) : Con Tryd.prog 17 [.slice A l.length c, .slice A2 n c2] w (fun y : Option Addr × Nat × Items => Own 2 35 eSam (rendL l p) (.slice y.1 (rendL l p).length y.2.1) y.2.2)
    (fun y => .tuple #[.slice y.1 (rendL l p).length y.2.1, I (rErr l p)]) (fun y => y.2.2) := by
  subst hn; exact C_Render h hp
set_option maxRecDepth 20000 in
set_option maxHeartbeats 4000000 in
theorem L_TakeParted (h : Tks w A l) (_hl : l.length ≤ c ∧ c ≤ maxLen) (hp : RdL w 7 ePrt A2 p) (hx : p.length ≤ c2 ∧ c2 ≤ maxLen ∧ ∀ x ∈ p, x.wf) (_ht : I64 t) : Con0 Tryd.prog 8 [.slice A l.length c, .slice A2 p.length c2, I t] w (.bool true) := by
  refine Ret_of (vs := [_, _, _]) hm none' Tryd.func8 rfl Tryd.ntmps8 rfl ?_
  dsimp only [slotsOf]
  refine GE_seq ?_
  refine GE_plain (.st 0 .nil) rfl ?_
  refine GT_st rfl rfl rfl rfl (V_assign rfl rfl) ?_
  refine GT_nil ?_
  refine GE_seq ?_
  refine GE_seq ?_
  refine GE_plain (.st 0 (.st 1 (.ld 2 [] (.st 3 (.st 4 (.st 5 (.ld 6 [] (.st 7 (.st 8 .nil))))))))) rfl ?_
  refine GT_st rfl rfl rfl rfl (V_move rfl rfl) ?_
  refine GT_st rfl rfl rfl rfl (V_move rfl rfl) ?_
  refine GT_call0 rfl rfl rfl rfl rfl rfl rfl rfl rn_20 (fun w hw => C_great (h.sh hw)) (GR_nil) ?_
  refine GT_st rfl rfl rfl rfl (V_move rfl rfl) ?_
  first | refine GT_splitNot (d := 22) rfl (fun q1 => ?_) (fun q1 => ?_) | refine GT_split (d := 22) rfl (fun q1 => ?_) (fun q1 => ?_) | refine GT_splitNotB (d := 22) rfl (fun q1 => ?_) (fun q1 => ?_) | refine GT_splitB (d := 22) rfl (fun q1 => ?_) (fun q1 => ?_)
  · skip
    refine GT_skip rfl rfl rfl rfl rfl (by decide) rfl rfl ?_
    refine GT_skip rfl rfl rfl rfl rfl (by decide) rfl rfl ?_
    refine GT_skip_ld rfl rfl rfl rfl rfl (by decide) rfl rfl rfl (GR_nil) ?_
    refine GT_skip rfl rfl rfl rfl rfl (by decide) rfl rfl ?_
    refine GT_st rfl rfl rfl rfl (V_pick_t rfl rfl rfl) ?_
    refine GT_nil ?_
    refine GE_cond_t rfl ?_
    refine GE_seq ?_
    refine GE_slots (L' := []) trivial ?_
    refine GE_plain (.ld 0 [] (.st 1 .nil)) rfl ?_
    refine GT_call0 rfl rfl rfl rfl rfl rfl rfl rfl rn_16 (fun w hw => C_Works) (GR_nil) ?_
    refine GT_st rfl rfl rfl rfl (V_assign rfl rfl) ?_
    refine GT_nil ?_
    refine GE_ret Tryd.func8 rfl (fun w hw => ⟨?_, hw.nil⟩)
    rfl
  · have hgr := greatB_no q1
    refine GT_st_g rfl rfl rfl rfl rfl rfl rfl (V_move rfl rfl) ?_
    refine GT_st_g rfl rfl rfl rfl rfl rfl rfl (V_move rfl rfl) ?_
    refine GT_call0_g rfl rfl rfl rfl rfl rfl rfl rfl rfl rfl rfl rn_21 (fun w hw => C_rCheckProgramme (h.sh hw) (hp.sh hw)) (GR_nil) ?_
    refine GT_st_g rfl rfl rfl rfl rfl rfl rfl (V_neq rfl rfl rfl) ?_
    refine GT_st rfl rfl rfl rfl (V_pick_f rfl rfl rfl) ?_
    refine GT_nil ?_
    first | refine GE_condNot rfl (fun q2 => ?_) (fun q2 => ?_) | refine GE_cond rfl (fun q2 => ?_) (fun q2 => ?_) | refine GE_condNotB rfl (fun q2 => ?_) (fun q2 => ?_) | refine GE_condB rfl (fun q2 => ?_) (fun q2 => ?_)
    · skip
      refine GE_seq ?_
      refine GE_slots (L' := []) trivial ?_
      refine GE_plain (.ld 0 [] (.st 1 .nil)) rfl ?_
      refine GT_call0 rfl rfl rfl rfl rfl rfl rfl rfl rn_16 (fun w hw => C_Works) (GR_nil) ?_
      refine GT_st rfl rfl rfl rfl (V_assign rfl rfl) ?_
      refine GT_nil ?_
      refine GE_ret Tryd.func8 rfl (fun w hw => ⟨?_, hw.nil⟩)
      rfl
    · have hP := gErr_zero.1 q2; have hfP := hP.fin; have hrl := rendL_len hP
      refine GE_skip ?_
      refine GE_seq ?_
      refine GE_slots (L' := [(0, _), (1, _), (2, _)]) ⟨rfl, rfl, rfl, trivial⟩ ?_
      refine GE_plain (.st 0 (.st 1 (.st 2 (.ld 3 [] (.st 4 (.st 5 (.st 6 (.st 7 (.st 8 (.st 9 (.st 10 .nil))))))))))) rfl ?_
      refine GT_st rfl rfl rfl rfl (V_move rfl rfl) ?_
      refine GT_st rfl rfl rfl rfl (V_move rfl rfl) ?_
      refine GT_st rfl rfl rfl rfl (V_move rfl rfl) ?_
      refine GT_call rfl rfl rfl rfl rfl rfl rfl rfl rn_30 (fun w hw => C_Split (h.sh hw) (hp.sh hw) hx.1) (fun _ _ => GR_nil) (fun y hy => ?_)
      refine GT_st rfl rfl rfl rfl (V_move rfl rfl) ?_
      refine GT_st rfl rfl rfl rfl (V_extract rfl rfl rfl) ?_
      refine GT_st rfl rfl rfl rfl (V_extract rfl rfl rfl) ?_
      refine GT_st rfl rfl rfl rfl (V_extract rfl rfl rfl) ?_
      refine GT_st rfl rfl rfl rfl (V_assign rfl rfl) ?_
      refine GT_st rfl rfl rfl rfl (V_assign rfl rfl) ?_
      refine GT_st rfl rfl rfl rfl (V_assign rfl rfl) ?_
      refine GT_nil ?_
      refine GE_seq ?_
      refine GE_slots (L' := [(0, _), (1, _), (2, _), (7, _), (8, _), (9, _)]) ⟨rfl, rfl, rfl, rfl, rfl, rfl, trivial⟩ ?_
      refine GE_plain (.st 0 (.st 1 (.ld 2 [] (.st 3 (.st 4 (.st 5 (.st 6 (.st 7 .nil)))))))) rfl ?_
      refine GT_st rfl rfl rfl rfl (V_move rfl rfl) ?_
      refine GT_st rfl rfl rfl rfl (V_move rfl rfl) ?_
      refine GT_call rfl rfl rfl rfl rfl rfl rfl rfl rn_17 (fun w hw => C_Render (h.sh hw) (hp.sh hw)) (fun _ _ => GR_nil) (fun r hr => ?_)
      refine GT_st rfl rfl rfl rfl (V_move rfl rfl) ?_
      refine GT_st rfl rfl rfl rfl (V_extract rfl rfl rfl) ?_
      refine GT_st rfl rfl rfl rfl (V_extract rfl rfl rfl) ?_
      refine GT_st rfl rfl rfl rfl (V_assign rfl rfl) ?_
      refine GT_st rfl rfl rfl rfl (V_assign rfl rfl) ?_
      refine GT_nil ?_
      refine GE_seq ?_
      refine GE_seq ?_
      refine GE_slots (L' := [(0, _), (1, _), (2, _), (7, _), (8, _), (9, _), (10, _), (11, _)]) ⟨rfl, rfl, rfl, rfl, rfl, rfl, rfl, rfl, trivial⟩ ?_
      refine GE_plain (.st 0 (.st 1 .nil)) rfl ?_
      refine GT_st rfl rfl rfl rfl (V_move rfl rfl) ?_
      refine GT_st rfl rfl rfl rfl (V_neq rfl rfl rfl) ?_
      refine GT_nil ?_
      first | refine GE_condNot rfl (fun q3 => ?_) (fun q3 => ?_) | refine GE_cond rfl (fun q3 => ?_) (fun q3 => ?_) | refine GE_condNotB rfl (fun q3 => ?_) (fun q3 => ?_) | refine GE_condB rfl (fun q3 => ?_) (fun q3 => ?_)
      · have eF : spF l p t = [] := if_neg q3; have eS : spS l p t = [] := if_neg q3
        refine GE_seq ?_
        refine GE_slots (L' := [(7, _), (8, _)]) ⟨rfl, rfl, trivial⟩ ?_
        refine GE_plain (.st 0 (.st 1 (.st 2 (.st 3 (.st 4 (.st 5 (.st 6 (.st 7 (.st 8 (.ld 9 [] (.st 10 (.st 11 .nil)))))))))))) rfl ?_
        refine GT_st rfl rfl rfl rfl (V_move rfl rfl) ?_
        refine GT_st rfl rfl rfl rfl (V_len rfl Tryd.underlying31 rfl) ?_
        refine GT_st rfl rfl rfl rfl (V_isT (V_eql rfl rfl rfl) (by rw [eF]; rfl)) ?_
        refine GT_st rfl rfl rfl rfl (V_move rfl rfl) ?_
        refine GT_st_g rfl rfl rfl rfl rfl rfl rfl (V_move rfl rfl) ?_
        refine GT_st_g rfl rfl rfl rfl rfl rfl rfl (V_len rfl Tryd.underlying31 rfl) ?_
        refine GT_st_g rfl rfl rfl rfl rfl rfl rfl (V_isT (V_eql rfl rfl rfl) (by rw [eS]; rfl)) ?_
        refine GT_st rfl rfl rfl rfl (V_pick_t rfl rfl rfl) ?_
        refine GT_st rfl rfl rfl rfl (V_move rfl rfl) ?_
        refine GT_call0_g rfl rfl rfl rfl rfl rfl rfl rfl rfl rfl rfl rn_16 (fun w hw => C_Works) (GR_nil) ?_
        refine GT_st rfl rfl rfl rfl (V_pick_t rfl rfl rfl) ?_
        refine GT_st rfl rfl rfl rfl (V_assign rfl rfl) ?_
        refine GT_nil ?_
        refine GE_ret Tryd.func8 rfl (fun w hw => ⟨?_, hw.nil⟩)
        rfl
      · have hC := sp_cut q3; have eF : spF l p t = p.take (spN p t) := if_pos q3; have eS : spS l p t = cutP p (spN p t) t := if_pos q3; have lA : (p.take (spN p t)).length = spN p t := (by rw [List.length_take]; have := hC.le; omega); have lB := cutP_len p (spN p t) t; rw [eF, eS, lA, lB] at hy ⊢; generalize spN p t = N at *; have hNl := hC.le; have h0 := hC.t0; have h1 := hC.t1; have hfa := cut_finA hC; have hfb := cut_fin hC; have hOA := cut_okA hC; have hOB := cut_okB hC; have hra := rendL_len hOA; have hrb := rendL_len hOB
        refine GE_skip ?_
        refine GE_seq ?_
        refine GE_seq ?_
        refine GE_plain (.st 0 (.st 1 (.st 2 (.st 3 (.st 4 (.st 5 (.st 6 (.st 7 (.st 8 (.st 9 (.st 10 (.st 11 (.st 12 (.st 13 (.st 14 (.ld 15 [] (.st 16 (.st 17 (.st 18 (.st 19 (.st 20 (.ld 21 [] (.st 22 (.st 23 .nil)))))))))))))))))))))))) rfl ?_
        refine GT_st rfl rfl rfl rfl (V_move rfl rfl) ?_
        refine GT_st rfl rfl rfl rfl (V_len rfl Tryd.underlying31 rfl) ?_
        refine GT_st rfl rfl rfl rfl (V_move rfl rfl) ?_
        refine GT_st rfl rfl rfl rfl (V_len rfl Tryd.underlying31 rfl) ?_
        refine GT_st rfl rfl rfl rfl (V_add rfl rfl rfl (wrap_i64 (by omega))) ?_
        refine GT_st rfl rfl rfl rfl (V_move rfl rfl) ?_
        refine GT_st rfl rfl rfl rfl (V_len rfl Tryd.underlying31 rfl) ?_
        refine GT_st rfl rfl rfl rfl (V_isF (V_neq rfl rfl rfl) (by omega)) ?_
        refine GT_st rfl rfl rfl rfl (V_move rfl rfl) ?_
        refine GT_st_g rfl rfl rfl rfl rfl rfl rfl (V_move rfl rfl) ?_
        refine GT_st_g rfl rfl rfl rfl rfl rfl rfl (V_isF (V_lss rfl rfl rfl) (by omega)) ?_
        refine GT_st rfl rfl rfl rfl (V_pick_f rfl rfl rfl) ?_
        refine GT_st rfl rfl rfl rfl (V_move rfl rfl) ?_
        refine GT_st_g rfl rfl rfl rfl rfl rfl rfl (V_move rfl rfl) ?_
        refine GT_st_g rfl rfl rfl rfl rfl rfl rfl (V_move rfl rfl) ?_
        refine GT_call0_g rfl rfl rfl rfl rfl rfl rfl rfl rfl rfl rfl rn_33 (fun w hw => C_ChkOk (p := p.take N) (h.sh hw) (hy.1.rdH ePrt_len hw) lA.symm hOA) (GR_nil) ?_
        refine GT_st_g rfl rfl rfl rfl rfl rfl rfl (V_isF (V_neq rfl rfl rfl) (fun q => q rfl)) ?_
        refine GT_st rfl rfl rfl rfl (V_pick_f rfl rfl rfl) ?_
        refine GT_st rfl rfl rfl rfl (V_move rfl rfl) ?_
        refine GT_st_g rfl rfl rfl rfl rfl rfl rfl (V_move rfl rfl) ?_
        refine GT_st_g rfl rfl rfl rfl rfl rfl rfl (V_move rfl rfl) ?_
        refine GT_call0_g rfl rfl rfl rfl rfl rfl rfl rfl rfl rfl rfl rn_33 (fun w hw => C_ChkOk (p := cutP p N t) (h.sh hw) (hy.2.rdH ePrt_len hw) lB.symm hOB) (GR_nil) ?_
        refine GT_st_g rfl rfl rfl rfl rfl rfl rfl (V_isF (V_neq rfl rfl rfl) (fun q => q rfl)) ?_
        refine GT_st rfl rfl rfl rfl (V_pick_f rfl rfl rfl) ?_
        refine GT_nil ?_
        refine GE_cond_f rfl ?_
        refine GE_skip ?_
        refine GE_seq ?_
        refine GE_seq ?_
        refine GE_slots (L' := [(0, _), (1, _), (2, _), (7, _), (8, _), (10, _), (11, _)]) ⟨rfl, rfl, rfl, rfl, rfl, rfl, rfl, trivial⟩ ?_
        refine GE_plain (.st 0 .nil) rfl ?_
        refine GT_st rfl rfl rfl rfl (V_assign rfl rfl) ?_
        refine GT_nil ?_
        refine GE_block ?_
        refine GE_to (GE_loop (ι := Nat) (fun i => p.length - i) (fun i => [(0, .slice A l.length c), (1, .slice A2 p.length c2), (2, I t), (7, .slice y.1.1 N y.1.2.1), (8, .slice y.2.1 (p.length - N) y.2.2.1), (10, .slice r.1 (rendL l p).length r.2.1), (11, I (rErr l p)), (12, I i)]) (fun i => r.2.2 ++ (y.1.2.2 ++ y.2.2.2)) (fun i => i ≤ p.length) ?_ 0 ?_) ⟨rfl, rfl, rfl, rfl, rfl, rfl, rfl, rfl, trivial⟩ (HS.chunk (HS.chunk HS.last))
        · intro i hi ih
          refine GE_seq ?_
          refine GE_seq ?_
          refine GE_plain (.st 0 (.st 1 (.st 2 (.st 3 .nil)))) rfl ?_
          refine GT_st rfl rfl rfl rfl (V_move rfl rfl) ?_
          refine GT_st rfl rfl rfl rfl (V_move rfl rfl) ?_
          refine GT_st rfl rfl rfl rfl (V_len rfl Tryd.underlying31 rfl) ?_
          refine GT_st rfl rfl rfl rfl (V_lss rfl rfl rfl) ?_
          refine GT_nil ?_
          first | refine GE_condNot rfl (fun q4 => ?_) (fun q4 => ?_) | refine GE_cond rfl (fun q4 => ?_) (fun q4 => ?_) | refine GE_condNotB rfl (fun q4 => ?_) (fun q4 => ?_) | refine GE_condB rfl (fun q4 => ?_) (fun q4 => ?_)
          · have hil : i < p.length := (by omega)
            refine GE_skip ?_
            refine GE_seq ?_
            refine GE_block ?_
            refine GE_seq ?_
            refine GE_slots (L' := [(0, _), (1, _), (2, _), (7, _), (8, _), (10, _), (11, _), (12, _)]) ⟨rfl, rfl, rfl, rfl, rfl, rfl, rfl, rfl, trivial⟩ ?_
            refine GE_plain (.st 0 (.st 1 (.st 2 (.st 3 (.ld 4 [] (.ld 5 [] .nil)))))) rfl ?_
            refine GT_st rfl rfl rfl rfl (V_move rfl rfl) ?_
            refine GT_st rfl rfl rfl rfl (V_move rfl rfl) ?_
            refine GT_st rfl rfl rfl rfl (V_index rfl rfl rfl Tryd.underlying31 sz_30 (k := i) rfl hil (hp.isSome hil)) ?_
            refine GT_st rfl rfl rfl rfl (V_loadN (vs := [_, _, _, _, _, _, _]) rfl rfl ag_30 sz_30 rfl (show CellsAt _ _ _ (ePrt (pt p i)) from hp.ats noM hil)) ?_
            refine GT_alloc rfl rfl rfl rfl rfl zc_30 (fun _ => GR_nil) (fun b13 => ?_)
            refine GT_store (vs := [_, _, _, _, _, _, _]) (l' := [_, _, _, _, _, _, _]) rfl rfl rfl rfl rfl rfl rfl sz_30 rfl rfl (Nat.le_of_ble_eq_true rfl) rfl (GR_nil) ?_
            refine GT_nil ?_
            refine GE_seq ?_
            refine GE_seq ?_
            refine GE_slots (L' := [(0, _), (1, _), (2, _), (7, _), (8, _), (10, _), (11, _), (12, _), (13, _)]) ⟨rfl, rfl, rfl, rfl, rfl, rfl, rfl, rfl, rfl, trivial⟩ ?_
            refine GE_drawn (.st 0 (.st 1 (.st 2 (.st 3 (.st 4 (.st 5 (.st 6 (.st 7 (.st 8 (.st 9 (.st 10 (.st 11 .nil)))))))))))) [] (by decide +kernel) ?_
            refine GT_st rfl rfl rfl rfl (V_move rfl rfl) ?_
            refine GT_st rfl rfl rfl rfl (V_move rfl rfl) ?_
            refine GT_st rfl rfl rfl rfl (V_len rfl Tryd.underlying31 rfl) ?_
            refine GT_st rfl rfl rfl rfl (V_lss rfl rfl rfl) ?_
            refine GT_st rfl rfl rfl rfl (V_move rfl rfl) ?_
            first | refine GT_splitNot (d := 94) rfl (fun q5 => ?_) (fun q5 => ?_) | refine GT_split (d := 94) rfl (fun q5 => ?_) (fun q5 => ?_) | refine GT_splitNotB (d := 94) rfl (fun q5 => ?_) (fun q5 => ?_) | refine GT_splitB (d := 94) rfl (fun q5 => ?_) (fun q5 => ?_)
            · have hia : i < (p.take N).length := (by omega); have hpa : (p.take N).getD i default = pt p i := pt_take (by omega)
              refine GT_st_g rfl rfl rfl rfl rfl rfl rfl (V_move rfl rfl) ?_
              refine GT_st_g rfl rfl rfl rfl rfl rfl rfl (V_move rfl rfl) ?_
              refine GT_st_g rfl rfl rfl rfl rfl rfl rfl (V_index rfl rfl rfl Tryd.underlying31 sz_30 (k := i) rfl (by omega) (hy.1.isSome hia)) ?_
              refine GT_st_g rfl rfl rfl rfl rfl rfl rfl (V_loadN (vs := [_, _, _, _, _, _, _]) rfl rfl ag_30 sz_30 rfl (CellsAt.ownE hy.1 ePrt_len hia (by rw [hpa]; rfl))) ?_
              refine GT_st_g rfl rfl rfl rfl rfl rfl rfl (V_loadN (vs := [_, _, _, _, _, _, _]) rfl rfl ag_30 sz_30 rfl (CellsAt.item rfl)) ?_
              refine GT_st_g rfl rfl rfl rfl rfl rfl rfl (V_isF (V_neqInts (zs := [_, _, _, _, _, _, _]) (zs' := [_, _, _, _, _, _, _]) rfl rfl rfl is_30 rfl rfl) (fun q => q rfl)) ?_
              refine GT_st rfl rfl rfl rfl (V_pick_t rfl rfl rfl) ?_
              refine GT_nil ?_
              refine GE_cond_f rfl ?_
              refine GE_skip ?_
              refine GE_seq ?_
              refine GE_slots (L' := [(0, _), (1, _), (2, _), (7, _), (8, _), (10, _), (11, _), (12, _), (13, _), (95, _), (96, _), (97, _), (98, _), (99, _), (100, _)]) ⟨rfl, rfl, rfl, rfl, rfl, rfl, rfl, rfl, rfl, rfl, rfl, rfl, rfl, rfl, rfl, trivial⟩ ?_
              refine GE_plain (.st 0 (.st 1 (.st 2 (.st 3 .nil)))) rfl ?_
              refine GT_st rfl rfl rfl rfl (V_move rfl rfl) ?_
              refine GT_st rfl rfl rfl rfl (V_move rfl rfl) ?_
              refine GT_st rfl rfl rfl rfl (V_len rfl Tryd.underlying31 rfl) ?_
              refine GT_st rfl rfl rfl rfl (V_geq rfl rfl rfl) ?_
              refine GT_nil ?_
              first | refine GE_condNot rfl (fun q6 => ?_) (fun q6 => ?_) | refine GE_cond rfl (fun q6 => ?_) (fun q6 => ?_) | refine GE_condNotB rfl (fun q6 => ?_) (fun q6 => ?_) | refine GE_condB rfl (fun q6 => ?_) (fun q6 => ?_)
              · have hib : i - N < (cutP p N t).length := (by omega); have hcg := cutP_get (p := p) (n := N) (k := i - N) (t := t) (by omega)
                refine GE_seq ?_
                refine GE_slots (L' := [(0, _), (1, _), (2, _), (7, _), (8, _), (10, _), (11, _), (12, _), (13, _), (95, _), (96, _), (97, _), (98, _), (99, _), (100, _)]) ⟨rfl, rfl, rfl, rfl, rfl, rfl, rfl, rfl, rfl, rfl, rfl, rfl, rfl, rfl, rfl, trivial⟩ ?_
                refine GE_plain (.st 0 (.st 1 (.st 2 (.st 3 (.st 4 (.st 5 (.st 6 (.ld 7 [] (.ld 8 [] .nil))))))))) rfl ?_
                refine GT_st rfl rfl rfl rfl (V_move rfl rfl) ?_
                refine GT_st rfl rfl rfl rfl (V_move rfl rfl) ?_
                refine GT_st rfl rfl rfl rfl (V_move rfl rfl) ?_
                refine GT_st rfl rfl rfl rfl (V_len rfl Tryd.underlying31 rfl) ?_
                refine GT_st rfl rfl rfl rfl (V_sub rfl rfl rfl (wrap_i64 (by omega))) ?_
                refine GT_st rfl rfl rfl rfl (V_index rfl rfl rfl Tryd.underlying31 sz_30 (k := i - N) (by omega) (by omega) (hy.2.isSome hib)) ?_
                refine GT_st rfl rfl rfl rfl (V_loadN (vs := [_, _, _, _, _, _, _]) rfl rfl ag_30 sz_30 rfl (CellsAt.ownE hy.2 ePrt_len hib (show ePrt (pt (cutP p N t) (i - N)) = _ from rfl))) ?_
                refine GT_alloc rfl rfl rfl rfl rfl zc_30 (fun _ => GR_nil) (fun b14 => ?_)
                refine GT_store (vs := [_, _, _, _, _, _, _]) (l' := [_, _, _, _, _, _, _]) rfl rfl rfl rfl rfl rfl rfl sz_30 rfl rfl (Nat.le_of_ble_eq_true rfl) rfl (GR_nil) ?_
                refine GT_nil ?_
                refine GE_seq ?_
                refine GE_seq ?_
                refine GE_slots (L' := [(0, _), (1, _), (2, _), (7, _), (8, _), (10, _), (11, _), (12, _), (13, _), (14, _), (95, _), (96, _), (97, _), (98, _), (99, _), (100, _)]) ⟨rfl, rfl, rfl, rfl, rfl, rfl, rfl, rfl, rfl, rfl, rfl, rfl, rfl, rfl, rfl, rfl, trivial⟩ ?_
                refine GE_plain (.st 0 (.st 1 (.st 2 (.st 3 .nil)))) rfl ?_
                refine GT_st rfl rfl rfl rfl (V_move rfl rfl) ?_
                refine GT_st rfl rfl rfl rfl (V_move rfl rfl) ?_
                refine GT_st rfl rfl rfl rfl (V_len rfl Tryd.underlying31 rfl) ?_
                refine GT_st rfl rfl rfl rfl (V_eql rfl rfl rfl) ?_
                refine GT_nil ?_
                first | refine GE_condNot rfl (fun q7 => ?_) (fun q7 => ?_) | refine GE_cond rfl (fun q7 => ?_) (fun q7 => ?_) | refine GE_condNotB rfl (fun q7 => ?_) (fun q7 => ?_) | refine GE_condB rfl (fun q7 => ?_) (fun q7 => ?_)
                · have hiN : i = N := (by omega); rw [if_pos (by omega), ← hiN] at hcg
                  refine GE_slots (L' := [(0, _), (1, _), (2, _), (7, _), (8, _), (10, _), (11, _), (12, _), (13, _), (14, _), (95, _), (96, _), (97, _), (98, _), (99, _), (100, _)]) ⟨rfl, rfl, rfl, rfl, rfl, rfl, rfl, rfl, rfl, rfl, rfl, rfl, rfl, rfl, rfl, rfl, trivial⟩ ?_
                  refine GE_plain (.st 0 (.st 1 (.st 2 (.ld 3 [] .nil)))) rfl ?_
                  first | refine GT_st rfl rfl rfl rfl (V_field rfl rfl fo_30_3) ?_ | refine GT_st rfl rfl rfl rfl (V_fieldA rfl rfl fo_30_3) ?_
                  refine GT_st rfl rfl rfl rfl (V_load rfl rfl ag_3 (CellAt.item rfl)) ?_
                  first | refine GT_st rfl rfl rfl rfl (V_field rfl rfl fo_30_3) ?_ | refine GT_st rfl rfl rfl rfl (V_fieldA rfl rfl fo_30_3) ?_
                  refine GT_store (vs := [_]) (l' := [_, _, _, _, _, _, _]) rfl rfl rfl rfl rfl rfl rfl sz_3 rfl rfl (Nat.le_of_ble_eq_true rfl) rfl (GR_nil) ?_
                  refine GT_nil ?_
                  refine GE_seq ?_
                  refine GE_plain (.st 0 (.st 1 (.st 2 .nil))) rfl ?_
                  refine GT_st rfl rfl rfl rfl (V_loadN (vs := [_, _, _, _, _, _, _]) rfl rfl ag_30 sz_30 rfl (CellsAt.item rfl)) ?_
                  refine GT_st rfl rfl rfl rfl (V_loadN (vs := [_, _, _, _, _, _, _]) rfl rfl ag_30 sz_30 rfl (CellsAt.item rfl)) ?_
                  refine GT_st rfl rfl rfl rfl (V_isF (V_neqInts (zs := [_, _, _, _, _, _, _]) (zs' := [_, _, _, _, _, _, _]) rfl rfl rfl is_30 rfl rfl) (fun q => q (by first | (subst hiN; rw [hcg]; rfl) | rw [hcg]))) ?_
                  refine GT_nil ?_
                  refine GE_cond_f rfl ?_
                  refine GE_skip ?_
                  refine GE_inBlock ?_
                  refine GE_slots (L' := [(0, _), (1, _), (2, _), (7, _), (8, _), (10, _), (11, _), (12, _), (95, _), (96, _), (97, _), (98, _), (99, _), (100, _)]) ⟨rfl, rfl, rfl, rfl, rfl, rfl, rfl, rfl, rfl, rfl, rfl, rfl, rfl, rfl, trivial⟩ ?_
                  refine GE_plain (.st 0 (.st 1 (.ld 2 [] .nil))) rfl ?_
                  refine GT_st rfl rfl rfl rfl (V_move rfl rfl) ?_
                  refine GT_st rfl rfl rfl rfl (V_add rfl rfl rfl (wrap_i64 (by omega))) ?_
                  refine GT_ldv rfl rfl rfl rfl rfl (V_assign rfl rfl) (GR_nil) ?_
                  refine GT_nil ?_
                  exact GE_to (ih (i + 1) (by omega) (by omega)) ⟨rfl, rfl, rfl, rfl, rfl, rfl, rfl, rfl, trivial⟩ (HS.chunk (HS.chunk HS.last))
                · rw [if_neg (by omega), show N + (i - N) = i by omega] at hcg
                  refine GE_skip ?_
                  refine GE_seq ?_
                  refine GE_slots (L' := [(0, _), (1, _), (2, _), (7, _), (8, _), (10, _), (11, _), (12, _), (13, _), (14, _), (95, _), (96, _), (97, _), (98, _), (99, _), (100, _)]) ⟨rfl, rfl, rfl, rfl, rfl, rfl, rfl, rfl, rfl, rfl, rfl, rfl, rfl, rfl, rfl, rfl, trivial⟩ ?_
                  refine GE_plain (.st 0 (.st 1 (.st 2 .nil))) rfl ?_
                  refine GT_st rfl rfl rfl rfl (V_loadN (vs := [_, _, _, _, _, _, _]) rfl rfl ag_30 sz_30 rfl (CellsAt.item rfl)) ?_
                  refine GT_st rfl rfl rfl rfl (V_loadN (vs := [_, _, _, _, _, _, _]) rfl rfl ag_30 sz_30 rfl (CellsAt.item rfl)) ?_
                  refine GT_st rfl rfl rfl rfl (V_isF (V_neqInts (zs := [_, _, _, _, _, _, _]) (zs' := [_, _, _, _, _, _, _]) rfl rfl rfl is_30 rfl rfl) (fun q => q (by first | (subst hiN; rw [hcg]; rfl) | rw [hcg]))) ?_
                  refine GT_nil ?_
                  refine GE_cond_f rfl ?_
                  refine GE_skip ?_
                  refine GE_inBlock ?_
                  refine GE_slots (L' := [(0, _), (1, _), (2, _), (7, _), (8, _), (10, _), (11, _), (12, _), (95, _), (96, _), (97, _), (98, _), (99, _), (100, _)]) ⟨rfl, rfl, rfl, rfl, rfl, rfl, rfl, rfl, rfl, rfl, rfl, rfl, rfl, rfl, trivial⟩ ?_
                  refine GE_plain (.st 0 (.st 1 (.ld 2 [] .nil))) rfl ?_
                  refine GT_st rfl rfl rfl rfl (V_move rfl rfl) ?_
                  refine GT_st rfl rfl rfl rfl (V_add rfl rfl rfl (wrap_i64 (by omega))) ?_
                  refine GT_ldv rfl rfl rfl rfl rfl (V_assign rfl rfl) (GR_nil) ?_
                  refine GT_nil ?_
                  exact GE_to (ih (i + 1) (by omega) (by omega)) ⟨rfl, rfl, rfl, rfl, rfl, rfl, rfl, rfl, trivial⟩ (HS.chunk (HS.chunk HS.last))
              · skip
                refine GE_skip ?_
                refine GE_inBlock ?_
                refine GE_slots (L' := [(0, _), (1, _), (2, _), (7, _), (8, _), (10, _), (11, _), (12, _), (95, _), (96, _), (97, _), (98, _), (99, _), (100, _)]) ⟨rfl, rfl, rfl, rfl, rfl, rfl, rfl, rfl, rfl, rfl, rfl, rfl, rfl, rfl, trivial⟩ ?_
                refine GE_plain (.st 0 (.st 1 (.ld 2 [] .nil))) rfl ?_
                refine GT_st rfl rfl rfl rfl (V_move rfl rfl) ?_
                refine GT_st rfl rfl rfl rfl (V_add rfl rfl rfl (wrap_i64 (by omega))) ?_
                refine GT_ldv rfl rfl rfl rfl rfl (V_assign rfl rfl) (GR_nil) ?_
                refine GT_nil ?_
                exact GE_to (ih (i + 1) (by omega) (by omega)) ⟨rfl, rfl, rfl, rfl, rfl, rfl, rfl, rfl, trivial⟩ (HS.chunk (HS.chunk HS.last))
            · skip
              refine GT_skip rfl rfl rfl rfl rfl (by decide) rfl rfl ?_
              refine GT_skip rfl rfl rfl rfl rfl (by decide) rfl rfl ?_
              refine GT_skip rfl rfl rfl rfl rfl (by decide) rfl rfl ?_
              refine GT_skip rfl rfl rfl rfl rfl (by decide) rfl rfl ?_
              refine GT_skip rfl rfl rfl rfl rfl (by decide) rfl rfl ?_
              refine GT_skip rfl rfl rfl rfl rfl (by decide) rfl rfl ?_
              refine GT_st rfl rfl rfl rfl (V_pick_f rfl rfl rfl) ?_
              refine GT_nil ?_
              refine GE_cond_f rfl ?_
              refine GE_skip ?_
              refine GE_seq ?_
              refine GE_slots (L' := [(0, _), (1, _), (2, _), (7, _), (8, _), (10, _), (11, _), (12, _), (13, _), (95, _), (96, _), (97, _), (98, _), (99, _), (100, _)]) ⟨rfl, rfl, rfl, rfl, rfl, rfl, rfl, rfl, rfl, rfl, rfl, rfl, rfl, rfl, rfl, trivial⟩ ?_
              refine GE_plain (.st 0 (.st 1 (.st 2 (.st 3 .nil)))) rfl ?_
              refine GT_st rfl rfl rfl rfl (V_move rfl rfl) ?_
              refine GT_st rfl rfl rfl rfl (V_move rfl rfl) ?_
              refine GT_st rfl rfl rfl rfl (V_len rfl Tryd.underlying31 rfl) ?_
              refine GT_st rfl rfl rfl rfl (V_geq rfl rfl rfl) ?_
              refine GT_nil ?_
              first | refine GE_condNot rfl (fun q6 => ?_) (fun q6 => ?_) | refine GE_cond rfl (fun q6 => ?_) (fun q6 => ?_) | refine GE_condNotB rfl (fun q6 => ?_) (fun q6 => ?_) | refine GE_condB rfl (fun q6 => ?_) (fun q6 => ?_)
              · have hib : i - N < (cutP p N t).length := (by omega); have hcg := cutP_get (p := p) (n := N) (k := i - N) (t := t) (by omega)
                refine GE_seq ?_
                refine GE_slots (L' := [(0, _), (1, _), (2, _), (7, _), (8, _), (10, _), (11, _), (12, _), (13, _), (95, _), (96, _), (97, _), (98, _), (99, _), (100, _)]) ⟨rfl, rfl, rfl, rfl, rfl, rfl, rfl, rfl, rfl, rfl, rfl, rfl, rfl, rfl, rfl, trivial⟩ ?_
                refine GE_plain (.st 0 (.st 1 (.st 2 (.st 3 (.st 4 (.st 5 (.st 6 (.ld 7 [] (.ld 8 [] .nil))))))))) rfl ?_
                refine GT_st rfl rfl rfl rfl (V_move rfl rfl) ?_
                refine GT_st rfl rfl rfl rfl (V_move rfl rfl) ?_
                refine GT_st rfl rfl rfl rfl (V_move rfl rfl) ?_
                refine GT_st rfl rfl rfl rfl (V_len rfl Tryd.underlying31 rfl) ?_
                refine GT_st rfl rfl rfl rfl (V_sub rfl rfl rfl (wrap_i64 (by omega))) ?_
                refine GT_st rfl rfl rfl rfl (V_index rfl rfl rfl Tryd.underlying31 sz_30 (k := i - N) (by omega) (by omega) (hy.2.isSome hib)) ?_
                refine GT_st rfl rfl rfl rfl (V_loadN (vs := [_, _, _, _, _, _, _]) rfl rfl ag_30 sz_30 rfl (CellsAt.ownE hy.2 ePrt_len hib (show ePrt (pt (cutP p N t) (i - N)) = _ from rfl))) ?_
                refine GT_alloc rfl rfl rfl rfl rfl zc_30 (fun _ => GR_nil) (fun b14 => ?_)
                refine GT_store (vs := [_, _, _, _, _, _, _]) (l' := [_, _, _, _, _, _, _]) rfl rfl rfl rfl rfl rfl rfl sz_30 rfl rfl (Nat.le_of_ble_eq_true rfl) rfl (GR_nil) ?_
                refine GT_nil ?_
                refine GE_seq ?_
                refine GE_seq ?_
                refine GE_slots (L' := [(0, _), (1, _), (2, _), (7, _), (8, _), (10, _), (11, _), (12, _), (13, _), (14, _), (95, _), (96, _), (97, _), (98, _), (99, _), (100, _)]) ⟨rfl, rfl, rfl, rfl, rfl, rfl, rfl, rfl, rfl, rfl, rfl, rfl, rfl, rfl, rfl, rfl, trivial⟩ ?_
                refine GE_plain (.st 0 (.st 1 (.st 2 (.st 3 .nil)))) rfl ?_
                refine GT_st rfl rfl rfl rfl (V_move rfl rfl) ?_
                refine GT_st rfl rfl rfl rfl (V_move rfl rfl) ?_
                refine GT_st rfl rfl rfl rfl (V_len rfl Tryd.underlying31 rfl) ?_
                refine GT_st rfl rfl rfl rfl (V_eql rfl rfl rfl) ?_
                refine GT_nil ?_
                first | refine GE_condNot rfl (fun q7 => ?_) (fun q7 => ?_) | refine GE_cond rfl (fun q7 => ?_) (fun q7 => ?_) | refine GE_condNotB rfl (fun q7 => ?_) (fun q7 => ?_) | refine GE_condB rfl (fun q7 => ?_) (fun q7 => ?_)
                · have hiN : i = N := (by omega); rw [if_pos (by omega), ← hiN] at hcg
                  refine GE_slots (L' := [(0, _), (1, _), (2, _), (7, _), (8, _), (10, _), (11, _), (12, _), (13, _), (14, _), (95, _), (96, _), (97, _), (98, _), (99, _), (100, _)]) ⟨rfl, rfl, rfl, rfl, rfl, rfl, rfl, rfl, rfl, rfl, rfl, rfl, rfl, rfl, rfl, rfl, trivial⟩ ?_
                  refine GE_plain (.st 0 (.st 1 (.st 2 (.ld 3 [] .nil)))) rfl ?_
                  first | refine GT_st rfl rfl rfl rfl (V_field rfl rfl fo_30_3) ?_ | refine GT_st rfl rfl rfl rfl (V_fieldA rfl rfl fo_30_3) ?_
                  refine GT_st rfl rfl rfl rfl (V_load rfl rfl ag_3 (CellAt.item rfl)) ?_
                  first | refine GT_st rfl rfl rfl rfl (V_field rfl rfl fo_30_3) ?_ | refine GT_st rfl rfl rfl rfl (V_fieldA rfl rfl fo_30_3) ?_
                  refine GT_store (vs := [_]) (l' := [_, _, _, _, _, _, _]) rfl rfl rfl rfl rfl rfl rfl sz_3 rfl rfl (Nat.le_of_ble_eq_true rfl) rfl (GR_nil) ?_
                  refine GT_nil ?_
                  refine GE_seq ?_
                  refine GE_plain (.st 0 (.st 1 (.st 2 .nil))) rfl ?_
                  refine GT_st rfl rfl rfl rfl (V_loadN (vs := [_, _, _, _, _, _, _]) rfl rfl ag_30 sz_30 rfl (CellsAt.item rfl)) ?_
                  refine GT_st rfl rfl rfl rfl (V_loadN (vs := [_, _, _, _, _, _, _]) rfl rfl ag_30 sz_30 rfl (CellsAt.item rfl)) ?_
                  refine GT_st rfl rfl rfl rfl (V_isF (V_neqInts (zs := [_, _, _, _, _, _, _]) (zs' := [_, _, _, _, _, _, _]) rfl rfl rfl is_30 rfl rfl) (fun q => q (by first | (subst hiN; rw [hcg]; rfl) | rw [hcg]))) ?_
                  refine GT_nil ?_
                  refine GE_cond_f rfl ?_
                  refine GE_skip ?_
                  refine GE_inBlock ?_
                  refine GE_slots (L' := [(0, _), (1, _), (2, _), (7, _), (8, _), (10, _), (11, _), (12, _), (95, _), (96, _), (97, _), (98, _), (99, _), (100, _)]) ⟨rfl, rfl, rfl, rfl, rfl, rfl, rfl, rfl, rfl, rfl, rfl, rfl, rfl, rfl, trivial⟩ ?_
                  refine GE_plain (.st 0 (.st 1 (.ld 2 [] .nil))) rfl ?_
                  refine GT_st rfl rfl rfl rfl (V_move rfl rfl) ?_
                  refine GT_st rfl rfl rfl rfl (V_add rfl rfl rfl (wrap_i64 (by omega))) ?_
                  refine GT_ldv rfl rfl rfl rfl rfl (V_assign rfl rfl) (GR_nil) ?_
                  refine GT_nil ?_
                  exact GE_to (ih (i + 1) (by omega) (by omega)) ⟨rfl, rfl, rfl, rfl, rfl, rfl, rfl, rfl, trivial⟩ (HS.chunk (HS.chunk HS.last))
                · rw [if_neg (by omega), show N + (i - N) = i by omega] at hcg
                  refine GE_skip ?_
                  refine GE_seq ?_
                  refine GE_slots (L' := [(0, _), (1, _), (2, _), (7, _), (8, _), (10, _), (11, _), (12, _), (13, _), (14, _), (95, _), (96, _), (97, _), (98, _), (99, _), (100, _)]) ⟨rfl, rfl, rfl, rfl, rfl, rfl, rfl, rfl, rfl, rfl, rfl, rfl, rfl, rfl, rfl, rfl, trivial⟩ ?_
                  refine GE_plain (.st 0 (.st 1 (.st 2 .nil))) rfl ?_
                  refine GT_st rfl rfl rfl rfl (V_loadN (vs := [_, _, _, _, _, _, _]) rfl rfl ag_30 sz_30 rfl (CellsAt.item rfl)) ?_
                  refine GT_st rfl rfl rfl rfl (V_loadN (vs := [_, _, _, _, _, _, _]) rfl rfl ag_30 sz_30 rfl (CellsAt.item rfl)) ?_
                  refine GT_st rfl rfl rfl rfl (V_isF (V_neqInts (zs := [_, _, _, _, _, _, _]) (zs' := [_, _, _, _, _, _, _]) rfl rfl rfl is_30 rfl rfl) (fun q => q (by first | (subst hiN; rw [hcg]; rfl) | rw [hcg]))) ?_
                  refine GT_nil ?_
                  refine GE_cond_f rfl ?_
                  refine GE_skip ?_
                  refine GE_inBlock ?_
                  refine GE_slots (L' := [(0, _), (1, _), (2, _), (7, _), (8, _), (10, _), (11, _), (12, _), (95, _), (96, _), (97, _), (98, _), (99, _), (100, _)]) ⟨rfl, rfl, rfl, rfl, rfl, rfl, rfl, rfl, rfl, rfl, rfl, rfl, rfl, rfl, trivial⟩ ?_
                  refine GE_plain (.st 0 (.st 1 (.ld 2 [] .nil))) rfl ?_
                  refine GT_st rfl rfl rfl rfl (V_move rfl rfl) ?_
                  refine GT_st rfl rfl rfl rfl (V_add rfl rfl rfl (wrap_i64 (by omega))) ?_
                  refine GT_ldv rfl rfl rfl rfl rfl (V_assign rfl rfl) (GR_nil) ?_
                  refine GT_nil ?_
                  exact GE_to (ih (i + 1) (by omega) (by omega)) ⟨rfl, rfl, rfl, rfl, rfl, rfl, rfl, rfl, trivial⟩ (HS.chunk (HS.chunk HS.last))
              · skip
                refine GE_skip ?_
                refine GE_inBlock ?_
                refine GE_slots (L' := [(0, _), (1, _), (2, _), (7, _), (8, _), (10, _), (11, _), (12, _), (95, _), (96, _), (97, _), (98, _), (99, _), (100, _)]) ⟨rfl, rfl, rfl, rfl, rfl, rfl, rfl, rfl, rfl, rfl, rfl, rfl, rfl, rfl, trivial⟩ ?_
                refine GE_plain (.st 0 (.st 1 (.ld 2 [] .nil))) rfl ?_
                refine GT_st rfl rfl rfl rfl (V_move rfl rfl) ?_
                refine GT_st rfl rfl rfl rfl (V_add rfl rfl rfl (wrap_i64 (by omega))) ?_
                refine GT_ldv rfl rfl rfl rfl rfl (V_assign rfl rfl) (GR_nil) ?_
                refine GT_nil ?_
                exact GE_to (ih (i + 1) (by omega) (by omega)) ⟨rfl, rfl, rfl, rfl, rfl, rfl, rfl, rfl, trivial⟩ (HS.chunk (HS.chunk HS.last))
          · skip
            refine GE_exit rfl ?_
            refine GE_seq ?_
            refine GE_slots (L' := [(0, _), (2, _), (7, _), (8, _), (10, _), (11, _)]) ⟨rfl, rfl, rfl, rfl, rfl, rfl, trivial⟩ ?_
            refine GE_plain (.st 0 (.st 1 (.ld 2 [] (.st 3 (.st 4 (.st 5 (.st 6 (.st 7 .nil)))))))) rfl ?_
            refine GT_st rfl rfl rfl rfl (V_move rfl rfl) ?_
            refine GT_st rfl rfl rfl rfl (V_move rfl rfl) ?_
            refine GT_call rfl rfl rfl rfl rfl rfl rfl rfl rn_17 (fun w hw => C_RenderN (p := p.take N) (h.sh hw) (hy.1.rdH ePrt_len hw) lA.symm) (fun _ _ => GR_nil) (fun u hu => ?_)
            refine GT_st rfl rfl rfl rfl (V_move rfl rfl) ?_
            refine GT_st rfl rfl rfl rfl (V_extract rfl rfl rfl) ?_
            refine GT_st rfl rfl rfl rfl (V_extract rfl rfl rfl) ?_
            refine GT_st rfl rfl rfl rfl (V_assign rfl rfl) ?_
            refine GT_st rfl rfl rfl rfl (V_assign rfl rfl) ?_
            refine GT_nil ?_
            refine GE_seq ?_
            refine GE_slots (L' := [(0, _), (2, _), (8, _), (10, _), (11, _), (15, _), (16, _)]) ⟨rfl, rfl, rfl, rfl, rfl, rfl, rfl, trivial⟩ ?_
            refine GE_plain (.st 0 (.st 1 (.ld 2 [] (.st 3 (.st 4 (.st 5 (.st 6 (.st 7 .nil)))))))) rfl ?_
            refine GT_st rfl rfl rfl rfl (V_move rfl rfl) ?_
            refine GT_st rfl rfl rfl rfl (V_move rfl rfl) ?_
            refine GT_call rfl rfl rfl rfl rfl rfl rfl rfl rn_17 (fun w hw => C_RenderN (p := cutP p N t) (h.sh hw) (hy.2.rdH ePrt_len hw) lB.symm) (fun _ _ => GR_nil) (fun z hz => ?_)
            refine GT_st rfl rfl rfl rfl (V_move rfl rfl) ?_
            refine GT_st rfl rfl rfl rfl (V_extract rfl rfl rfl) ?_
            refine GT_st rfl rfl rfl rfl (V_extract rfl rfl rfl) ?_
            refine GT_st rfl rfl rfl rfl (V_assign rfl rfl) ?_
            refine GT_st rfl rfl rfl rfl (V_assign rfl rfl) ?_
            refine GT_nil ?_
            refine GE_seq ?_
            refine GE_seq ?_
            refine GE_slots (L' := [(2, _), (10, _), (11, _), (15, _), (16, _), (17, _), (18, _)]) ⟨rfl, rfl, rfl, rfl, rfl, rfl, rfl, trivial⟩ ?_
            refine GE_plain (.st 0 (.st 1 .nil)) rfl ?_
            refine GT_st rfl rfl rfl rfl (V_move rfl rfl) ?_
            refine GT_st rfl rfl rfl rfl (V_neq rfl rfl rfl) ?_
            refine GT_nil ?_
            first | refine GE_condNot rfl (fun q8 => ?_) (fun q8 => ?_) | refine GE_cond rfl (fun q8 => ?_) (fun q8 => ?_) | refine GE_condNotB rfl (fun q8 => ?_) (fun q8 => ?_) | refine GE_condB rfl (fun q8 => ?_) (fun q8 => ?_)
            · skip
              refine GE_seq ?_
              refine GE_slots (L' := [(16, _), (18, _)]) ⟨rfl, rfl, trivial⟩ ?_
              refine GE_plain (.st 0 (.st 1 (.st 2 (.st 3 (.st 4 (.st 5 (.st 6 (.ld 7 [] (.st 8 (.st 9 .nil)))))))))) rfl ?_
              refine GT_st rfl rfl rfl rfl (V_move rfl rfl) ?_
              refine GT_st rfl rfl rfl rfl (V_neq rfl rfl rfl) ?_
              refine GT_st rfl rfl rfl rfl (V_move rfl rfl) ?_
              first | refine GT_splitNot (d := 139) rfl (fun q9 => ?_) (fun q9 => ?_) | refine GT_split (d := 139) rfl (fun q9 => ?_) (fun q9 => ?_) | refine GT_splitNotB (d := 139) rfl (fun q9 => ?_) (fun q9 => ?_) | refine GT_splitB (d := 139) rfl (fun q9 => ?_) (fun q9 => ?_)
              · skip
                refine GT_skip rfl rfl rfl rfl rfl (by decide) rfl rfl ?_
                refine GT_skip rfl rfl rfl rfl rfl (by decide) rfl rfl ?_
                refine GT_st rfl rfl rfl rfl (V_pick_t rfl rfl rfl) ?_
                refine GT_st rfl rfl rfl rfl (V_move rfl rfl) ?_
                refine GT_call0_g rfl rfl rfl rfl rfl rfl rfl rfl rfl rfl rfl rn_16 (fun w hw => C_Works) (GR_nil) ?_
                refine GT_st rfl rfl rfl rfl (V_pick_t rfl rfl rfl) ?_
                refine GT_st rfl rfl rfl rfl (V_assign rfl rfl) ?_
                refine GT_nil ?_
                refine GE_ret Tryd.func8 rfl (fun w hw => ⟨?_, hw.nil⟩)
                rfl
              · skip
                refine GT_st_g rfl rfl rfl rfl rfl rfl rfl (V_move rfl rfl) ?_
                refine GT_st_g rfl rfl rfl rfl rfl rfl rfl (V_isT (V_neq rfl rfl rfl) (fun e => q8 ((cut_rerr hC).2 ⟨q9, e⟩))) ?_
                refine GT_st rfl rfl rfl rfl (V_pick_f rfl rfl rfl) ?_
                refine GT_st rfl rfl rfl rfl (V_move rfl rfl) ?_
                refine GT_call0_g rfl rfl rfl rfl rfl rfl rfl rfl rfl rfl rfl rn_16 (fun w hw => C_Works) (GR_nil) ?_
                refine GT_st rfl rfl rfl rfl (V_pick_t rfl rfl rfl) ?_
                refine GT_st rfl rfl rfl rfl (V_assign rfl rfl) ?_
                refine GT_nil ?_
                refine GE_ret Tryd.func8 rfl (fun w hw => ⟨?_, hw.nil⟩)
                rfl
            · obtain ⟨ea, eb⟩ := (cut_rerr hC).1 q8; have la := hra.2 ea; have lb := hrb.2 eb; have eP : rendL l p = rend l p := if_pos q8; have eA : rendL l (p.take N) = rend l (p.take N) := if_pos ea; have eB : rendL l (cutP p N t) = rend l (cutP p N t) := if_pos eb; have hmx := cut_mix hC (va := vR l (p.take N)) (vb := vR l (cutP p N t)) (v := vR l p) vR_cutA vR_cutB
              refine GE_skip ?_
              refine GE_seq ?_
              refine GE_seq ?_
              refine GE_plain (.st 0 (.st 1 (.st 2 (.st 3 (.st 4 (.st 5 (.st 6 (.st 7 (.st 8 (.st 9 (.st 10 (.st 11 .nil)))))))))))) rfl ?_
              refine GT_st rfl rfl rfl rfl (V_move rfl rfl) ?_
              refine GT_st rfl rfl rfl rfl (V_isF (V_neq rfl rfl rfl) (fun q => q ea)) ?_
              refine GT_st rfl rfl rfl rfl (V_move rfl rfl) ?_
              refine GT_st_g rfl rfl rfl rfl rfl rfl rfl (V_move rfl rfl) ?_
              refine GT_st_g rfl rfl rfl rfl rfl rfl rfl (V_isF (V_neq rfl rfl rfl) (fun q => q eb)) ?_
              refine GT_st rfl rfl rfl rfl (V_pick_f rfl rfl rfl) ?_
              refine GT_st rfl rfl rfl rfl (V_move rfl rfl) ?_
              refine GT_st_g rfl rfl rfl rfl rfl rfl rfl (V_move rfl rfl) ?_
              refine GT_st_g rfl rfl rfl rfl rfl rfl rfl (V_len rfl Tryd.underlying22 rfl) ?_
              refine GT_st_g rfl rfl rfl rfl rfl rfl rfl (V_move rfl rfl) ?_
              refine GT_st_g rfl rfl rfl rfl rfl rfl rfl (V_isF (V_gtr rfl rfl rfl) (by omega)) ?_
              refine GT_st rfl rfl rfl rfl (V_pick_f rfl rfl rfl) ?_
              refine GT_nil ?_
              refine GE_cond_f rfl ?_
              refine GE_skip ?_
              refine GE_seq ?_
              refine GE_slots (L' := [(2, _), (10, _), (15, _), (17, _)]) ⟨rfl, rfl, rfl, rfl, trivial⟩ ?_
              refine GE_plain (.st 0 (.ld 1 [] (.st 2 (.ld 3 [] (.st 4 (.st 5 (.st 6 (.st 7 (.ld 8 [] (.st 9 (.ld 10 [] (.ld 11 [] (.st 12 (.ld 13 [] (.st 14 (.st 15 .nil)))))))))))))))) rfl ?_
              refine GT_st rfl rfl rfl rfl (V_move rfl rfl) ?_
              refine GT_buildSlice (z := []) rfl rfl rfl rfl rfl Tryd.underlying22 zc_35 sz_35 (by decide) rfl rfl (fun _ => GR_nil) (fun b159 => ?_)
              refine GT_st rfl rfl rfl rfl (V_move rfl rfl) ?_
              refine GT_append (enc := eSam) (l := []) (I := [(b159, blk [] 35)]) (m := rendL l (p.take N)) rfl rfl rfl rfl rfl rfl rfl (Own.lit (l := []) rfl rfl (by decide)) (fun w m => hu.rdH eSam_len m) Tryd.underlying22 zc_35 sz_35 ⟨rfl, by decide⟩ by_35 ⟨by simp only [List.length_nil]; omega, by simp only [List.length_nil]; omega⟩ eSam_len eSam_one (fun _ _ _ _ => GR_nil) (fun A5 c5 I5 hO5 => ?_)
              rw [List.nil_append] at hO5 ⊢
              refine GT_st rfl rfl rfl rfl (V_move rfl rfl) ?_
              refine GT_st rfl rfl rfl rfl (V_move rfl rfl) ?_
              refine GT_st rfl rfl rfl rfl (V_len rfl Tryd.underlying22 rfl) ?_
              refine GT_st rfl rfl rfl rfl (V_sub rfl rfl rfl (wrap_i64 (by omega))) ?_
              refine GT_appendZ (enc := eSam) (q := (t - fin (p.take N)).toNat) (x0 := (⟨0, 0⟩ : Sam)) rfl rfl rfl rfl rfl rfl rfl (by omega) hO5 Tryd.underlying22 Tryd.underlying3 zc_35 sz_35 ⟨rfl, by decide⟩ by_35 ⟨by omega, by omega⟩ eSam_len eSam_one rfl (fun _ _ _ _ => GR_nil) (fun A6 c6 I6 hO6 => ?_)
              refine GT_st rfl rfl rfl rfl (V_move rfl rfl) ?_
              refine GT_append (enc := eSam) (m := rendL l (cutP p N t)) rfl rfl rfl rfl rfl rfl rfl hO6 (fun w m => hz.rdH eSam_len m) Tryd.underlying22 zc_35 sz_35 ⟨rfl, by decide⟩ by_35 ⟨by simp only [List.length_append, List.length_replicate]; omega, by simp only [List.length_append, List.length_replicate]; omega⟩ eSam_len eSam_one (fun _ _ _ _ => GR_nil) (fun A7 c7 I7 hO7 => ?_)
              refine GT_call0 rfl rfl rfl rfl rfl rfl rfl rfl rn_22 (fun w hw => C_SameT (a := rendL l p) (by rw [eP, eA, eB]; exact hmx) (by omega) (hr.rdH eSam_len hw) (hO7.rdH eSam_len hw) rfl rfl) (GR_nil) ?_
              refine GT_st rfl rfl rfl rfl (V_move rfl rfl) ?_
              refine GT_call0_g rfl rfl rfl rfl rfl rfl rfl rfl rfl rfl rfl rn_16 (fun w hw => C_Works) (GR_nil) ?_
              refine GT_st rfl rfl rfl rfl (V_pick_t rfl rfl rfl) ?_
              refine GT_st rfl rfl rfl rfl (V_assign rfl rfl) ?_
              refine GT_nil ?_
              refine GE_ret Tryd.func8 rfl (fun w hw => ⟨?_, hw.nil⟩)
              rfl
        · exact Nat.zero_le _
end
end Go.Proofs.YtnklkobhjdkblaaDoor
