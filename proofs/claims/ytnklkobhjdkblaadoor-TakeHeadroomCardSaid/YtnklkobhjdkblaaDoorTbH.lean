/- TakeJoined, TakeHeadroom; walked. -/
import Derived.Test.YtnklkobhjdkblaaDoorTbE
import Derived.Test.YtnklkobhjdkblaaDoorTbG
import Derived.Test.YtnklkobhjdkblaaDoorTaI
namespace Go.Proofs.YtnklkobhjdkblaaDoor
open Go.Sx Go.Proofs Go.RowKit

theorem rErr_two {l : List Tk} {p : List Prt} (h : gErr l p = 0) : rErr l p = 0 ∨ rErr l p = 4 := by
  rw [rErr, if_pos h]; split
  · exact .inl rfl
  · exact .inr rfl
section
variable {w : World} {A A2 A3 : Option Addr} {c c2 c3 : Nat} {l : List Tk} {p q : List Prt} {t : Int}
theorem C_rChkN {n : Nat} (h : Tks w A l) (hp : RdL w 7 ePrt A2 p) (hn : n = p.length) : Con0 Tryd.prog 21 [.slice A l.length c, .slice A2 n c2] w (I (gErr l p)) := by
  subst hn; exact C_rCheckProgramme h hp
theorem C_ChkN {n : Nat} (h : Tks w A l) (hp : RdL w 7 ePrt A2 p) (hn : n = p.length) : Con0 Tryd.prog 33 [.slice A l.length c, .slice A2 n c2] w (I (gErr l p)) := by
  subst hn; exact C_CheckProgramme h hp
theorem C_HeadOk {n : Nat} (h : Tks w A l) (hp : RdL w 7 ePrt A2 p) (hn : n = p.length) (hP : ProgOk l p) : Con0 Tryd.prog 34 [.slice A l.length c, .slice A2 n c2] w (.tuple #[I (hd l p), I 0]) := by
  subst hn
  have := C_Headroom (c := c) (c2 := c2) h hp
  rw [hdV, if_pos (gErr_zero.2 hP), gErr_zero.2 hP] at this
  exact this
set_option maxRecDepth 20000 in
set_option maxHeartbeats 4000000 in
theorem L_TakeJoined (h : Tks w A l) (_hl : l.length ≤ c ∧ c ≤ maxLen) (hp : RdL w 7 ePrt A2 p) (_hx : p.length ≤ c2 ∧ c2 ≤ maxLen ∧ ∀ x ∈ p, x.wf) (hq : RdL w 7 ePrt A3 q) (_hy : q.length ≤ c3 ∧ c3 ≤ maxLen ∧ ∀ x ∈ q, x.wf) : Con0 Tryd.prog 12 [.slice A l.length c, .slice A2 p.length c2, .slice A3 q.length c3] w (.bool true) := by
  refine Ret_of (vs := [_, _, _]) hm none' Tryd.func12 rfl Tryd.ntmps12 rfl ?_
  dsimp only [slotsOf]
  refine GE_seq ?_
  refine GE_plain (.st 0 .nil) rfl ?_
  refine GT_st rfl rfl rfl rfl (V_assign rfl rfl) ?_
  refine GT_nil ?_
  refine GE_seq ?_
  refine GE_seq ?_
  refine GE_plain (.st 0 (.st 1 (.ld 2 [] (.st 3 (.st 4 (.st 5 (.ld 6 [] (.st 7 (.st 8 (.st 9 (.st 10 (.st 11 (.st 12 (.st 13 (.st 14 (.st 15 (.st 16 (.st 17 (.st 18 (.st 19 (.st 20 (.ld 21 [] (.st 22 (.st 23 (.st 24 (.st 25 (.st 26 (.ld 27 [] (.st 28 (.st 29 (.st 30 (.st 31 (.st 32 (.st 33 (.st 34 .nil))))))))))))))))))))))))))))))))))) rfl ?_
  refine GT_st rfl rfl rfl rfl (V_move rfl rfl) ?_
  refine GT_st rfl rfl rfl rfl (V_move rfl rfl) ?_
  refine GT_call0 rfl rfl rfl rfl rfl rfl rfl rfl rn_20 (fun w hw => C_great (h.sh hw)) (GR_nil) ?_
  refine GT_st rfl rfl rfl rfl (V_move rfl rfl) ?_
  first | refine GT_splitNot (d := 25) rfl (fun q1 => ?_) (fun q1 => ?_) | refine GT_split (d := 25) rfl (fun q1 => ?_) (fun q1 => ?_) | refine GT_splitNotB (d := 25) rfl (fun q1 => ?_) (fun q1 => ?_) | refine GT_splitB (d := 25) rfl (fun q1 => ?_) (fun q1 => ?_)
  · skip
    refine GT_skip rfl rfl rfl rfl rfl (by decide) rfl rfl ?_
    refine GT_skip rfl rfl rfl rfl rfl (by decide) rfl rfl ?_
    refine GT_skip_ld rfl rfl rfl rfl rfl (by decide) rfl rfl rfl (GR_nil) ?_
    refine GT_st rfl rfl rfl rfl (V_pick_t rfl rfl rfl) ?_
    refine GT_st rfl rfl rfl rfl (V_move rfl rfl) ?_
    refine GT_skip rfl rfl rfl rfl rfl (by decide) rfl rfl ?_
    refine GT_skip rfl rfl rfl rfl rfl (by decide) rfl rfl ?_
    refine GT_skip rfl rfl rfl rfl rfl (by decide) rfl rfl ?_
    refine GT_st rfl rfl rfl rfl (V_pick_t rfl rfl rfl) ?_
    refine GT_st rfl rfl rfl rfl (V_move rfl rfl) ?_
    refine GT_skip rfl rfl rfl rfl rfl (by decide) rfl rfl ?_
    refine GT_skip rfl rfl rfl rfl rfl (by decide) rfl rfl ?_
    refine GT_skip rfl rfl rfl rfl rfl (by decide) rfl rfl ?_
    refine GT_st rfl rfl rfl rfl (V_pick_t rfl rfl rfl) ?_
    refine GT_st rfl rfl rfl rfl (V_move rfl rfl) ?_
    refine GT_skip rfl rfl rfl rfl rfl (by decide) rfl rfl ?_
    refine GT_skip rfl rfl rfl rfl rfl (by decide) rfl rfl ?_
    refine GT_skip_ld rfl rfl rfl rfl rfl (by decide) rfl rfl rfl (GR_nil) ?_
    refine GT_skip rfl rfl rfl rfl rfl (by decide) rfl rfl ?_
    refine GT_st rfl rfl rfl rfl (V_pick_t rfl rfl rfl) ?_
    refine GT_st rfl rfl rfl rfl (V_move rfl rfl) ?_
    refine GT_skip rfl rfl rfl rfl rfl (by decide) rfl rfl ?_
    refine GT_skip rfl rfl rfl rfl rfl (by decide) rfl rfl ?_
    refine GT_skip_ld rfl rfl rfl rfl rfl (by decide) rfl rfl rfl (GR_nil) ?_
    refine GT_skip rfl rfl rfl rfl rfl (by decide) rfl rfl ?_
    refine GT_st rfl rfl rfl rfl (V_pick_t rfl rfl rfl) ?_
    refine GT_st rfl rfl rfl rfl (V_move rfl rfl) ?_
    refine GT_skip rfl rfl rfl rfl rfl (by decide) rfl rfl ?_
    refine GT_skip rfl rfl rfl rfl rfl (by decide) rfl rfl ?_
    refine GT_skip rfl rfl rfl rfl rfl (by decide) rfl rfl ?_
    refine GT_st rfl rfl rfl rfl (V_pick_t rfl rfl rfl) ?_
    refine GT_nil ?_
    refine GE_cond_t rfl ?_
    refine GE_seq ?_
    refine GE_slots (L' := []) trivial ?_
    refine GE_plain (.ld 0 [] (.st 1 .nil)) rfl ?_
    refine GT_call0 rfl rfl rfl rfl rfl rfl rfl rfl rn_16 (fun w hw => C_Works) (GR_nil) ?_
    refine GT_st rfl rfl rfl rfl (V_assign rfl rfl) ?_
    refine GT_nil ?_
    refine GE_ret Tryd.func12 rfl (fun w hw => ⟨?_, hw.nil⟩)
    rfl
  · skip
    refine GT_st_g rfl rfl rfl rfl rfl rfl rfl (V_move rfl rfl) ?_
    refine GT_st_g rfl rfl rfl rfl rfl rfl rfl (V_move rfl rfl) ?_
    refine GT_call0_g rfl rfl rfl rfl rfl rfl rfl rfl rfl rfl rfl rn_20 (fun w hw => C_great (h.sh hw)) (GR_nil) ?_
    refine GT_st rfl rfl rfl rfl (V_pick_f rfl rfl rfl) ?_
    refine GT_st rfl rfl rfl rfl (V_move rfl rfl) ?_
    first | refine GT_splitNot (d := 30) rfl (fun q2 => ?_) (fun q2 => ?_) | refine GT_split (d := 30) rfl (fun q2 => ?_) (fun q2 => ?_) | refine GT_splitNotB (d := 30) rfl (fun q2 => ?_) (fun q2 => ?_) | refine GT_splitB (d := 30) rfl (fun q2 => ?_) (fun q2 => ?_)
    · skip
      refine GT_skip rfl rfl rfl rfl rfl (by decide) rfl rfl ?_
      refine GT_skip rfl rfl rfl rfl rfl (by decide) rfl rfl ?_
      refine GT_skip rfl rfl rfl rfl rfl (by decide) rfl rfl ?_
      refine GT_st rfl rfl rfl rfl (V_pick_t rfl rfl rfl) ?_
      refine GT_st rfl rfl rfl rfl (V_move rfl rfl) ?_
      refine GT_skip rfl rfl rfl rfl rfl (by decide) rfl rfl ?_
      refine GT_skip rfl rfl rfl rfl rfl (by decide) rfl rfl ?_
      refine GT_skip rfl rfl rfl rfl rfl (by decide) rfl rfl ?_
      refine GT_st rfl rfl rfl rfl (V_pick_t rfl rfl rfl) ?_
      refine GT_st rfl rfl rfl rfl (V_move rfl rfl) ?_
      refine GT_skip rfl rfl rfl rfl rfl (by decide) rfl rfl ?_
      refine GT_skip rfl rfl rfl rfl rfl (by decide) rfl rfl ?_
      refine GT_skip_ld rfl rfl rfl rfl rfl (by decide) rfl rfl rfl (GR_nil) ?_
      refine GT_skip rfl rfl rfl rfl rfl (by decide) rfl rfl ?_
      refine GT_st rfl rfl rfl rfl (V_pick_t rfl rfl rfl) ?_
      refine GT_st rfl rfl rfl rfl (V_move rfl rfl) ?_
      refine GT_skip rfl rfl rfl rfl rfl (by decide) rfl rfl ?_
      refine GT_skip rfl rfl rfl rfl rfl (by decide) rfl rfl ?_
      refine GT_skip_ld rfl rfl rfl rfl rfl (by decide) rfl rfl rfl (GR_nil) ?_
      refine GT_skip rfl rfl rfl rfl rfl (by decide) rfl rfl ?_
      refine GT_st rfl rfl rfl rfl (V_pick_t rfl rfl rfl) ?_
      refine GT_st rfl rfl rfl rfl (V_move rfl rfl) ?_
      refine GT_skip rfl rfl rfl rfl rfl (by decide) rfl rfl ?_
      refine GT_skip rfl rfl rfl rfl rfl (by decide) rfl rfl ?_
      refine GT_skip rfl rfl rfl rfl rfl (by decide) rfl rfl ?_
      refine GT_st rfl rfl rfl rfl (V_pick_t rfl rfl rfl) ?_
      refine GT_nil ?_
      refine GE_cond_t rfl ?_
      refine GE_seq ?_
      refine GE_slots (L' := []) trivial ?_
      refine GE_plain (.ld 0 [] (.st 1 .nil)) rfl ?_
      refine GT_call0 rfl rfl rfl rfl rfl rfl rfl rfl rn_16 (fun w hw => C_Works) (GR_nil) ?_
      refine GT_st rfl rfl rfl rfl (V_assign rfl rfl) ?_
      refine GT_nil ?_
      refine GE_ret Tryd.func12 rfl (fun w hw => ⟨?_, hw.nil⟩)
      rfl
    · skip
      refine GT_st_g rfl rfl rfl rfl rfl rfl rfl (V_move rfl rfl) ?_
      refine GT_st_g rfl rfl rfl rfl rfl rfl rfl (V_len rfl Tryd.underlying31 rfl) ?_
      refine GT_st_g rfl rfl rfl rfl rfl rfl rfl (V_gtr rfl rfl rfl) ?_
      refine GT_st rfl rfl rfl rfl (V_pick_f rfl rfl rfl) ?_
      refine GT_st rfl rfl rfl rfl (V_move rfl rfl) ?_
      first | refine GT_splitNot (d := 35) rfl (fun q3 => ?_) (fun q3 => ?_) | refine GT_split (d := 35) rfl (fun q3 => ?_) (fun q3 => ?_) | refine GT_splitNotB (d := 35) rfl (fun q3 => ?_) (fun q3 => ?_) | refine GT_splitB (d := 35) rfl (fun q3 => ?_) (fun q3 => ?_)
      · skip
        refine GT_skip rfl rfl rfl rfl rfl (by decide) rfl rfl ?_
        refine GT_skip rfl rfl rfl rfl rfl (by decide) rfl rfl ?_
        refine GT_skip rfl rfl rfl rfl rfl (by decide) rfl rfl ?_
        refine GT_st rfl rfl rfl rfl (V_pick_t rfl rfl rfl) ?_
        refine GT_st rfl rfl rfl rfl (V_move rfl rfl) ?_
        refine GT_skip rfl rfl rfl rfl rfl (by decide) rfl rfl ?_
        refine GT_skip rfl rfl rfl rfl rfl (by decide) rfl rfl ?_
        refine GT_skip_ld rfl rfl rfl rfl rfl (by decide) rfl rfl rfl (GR_nil) ?_
        refine GT_skip rfl rfl rfl rfl rfl (by decide) rfl rfl ?_
        refine GT_st rfl rfl rfl rfl (V_pick_t rfl rfl rfl) ?_
        refine GT_st rfl rfl rfl rfl (V_move rfl rfl) ?_
        refine GT_skip rfl rfl rfl rfl rfl (by decide) rfl rfl ?_
        refine GT_skip rfl rfl rfl rfl rfl (by decide) rfl rfl ?_
        refine GT_skip_ld rfl rfl rfl rfl rfl (by decide) rfl rfl rfl (GR_nil) ?_
        refine GT_skip rfl rfl rfl rfl rfl (by decide) rfl rfl ?_
        refine GT_st rfl rfl rfl rfl (V_pick_t rfl rfl rfl) ?_
        refine GT_st rfl rfl rfl rfl (V_move rfl rfl) ?_
        refine GT_skip rfl rfl rfl rfl rfl (by decide) rfl rfl ?_
        refine GT_skip rfl rfl rfl rfl rfl (by decide) rfl rfl ?_
        refine GT_skip rfl rfl rfl rfl rfl (by decide) rfl rfl ?_
        refine GT_st rfl rfl rfl rfl (V_pick_t rfl rfl rfl) ?_
        refine GT_nil ?_
        refine GE_cond_t rfl ?_
        refine GE_seq ?_
        refine GE_slots (L' := []) trivial ?_
        refine GE_plain (.ld 0 [] (.st 1 .nil)) rfl ?_
        refine GT_call0 rfl rfl rfl rfl rfl rfl rfl rfl rn_16 (fun w hw => C_Works) (GR_nil) ?_
        refine GT_st rfl rfl rfl rfl (V_assign rfl rfl) ?_
        refine GT_nil ?_
        refine GE_ret Tryd.func12 rfl (fun w hw => ⟨?_, hw.nil⟩)
        rfl
      · skip
        refine GT_st_g rfl rfl rfl rfl rfl rfl rfl (V_move rfl rfl) ?_
        refine GT_st_g rfl rfl rfl rfl rfl rfl rfl (V_len rfl Tryd.underlying31 rfl) ?_
        refine GT_st_g rfl rfl rfl rfl rfl rfl rfl (V_gtr rfl rfl rfl) ?_
        refine GT_st rfl rfl rfl rfl (V_pick_f rfl rfl rfl) ?_
        refine GT_st rfl rfl rfl rfl (V_move rfl rfl) ?_
        first | refine GT_splitNot (d := 40) rfl (fun q4 => ?_) (fun q4 => ?_) | refine GT_split (d := 40) rfl (fun q4 => ?_) (fun q4 => ?_) | refine GT_splitNotB (d := 40) rfl (fun q4 => ?_) (fun q4 => ?_) | refine GT_splitB (d := 40) rfl (fun q4 => ?_) (fun q4 => ?_)
        · skip
          refine GT_skip rfl rfl rfl rfl rfl (by decide) rfl rfl ?_
          refine GT_skip rfl rfl rfl rfl rfl (by decide) rfl rfl ?_
          refine GT_skip_ld rfl rfl rfl rfl rfl (by decide) rfl rfl rfl (GR_nil) ?_
          refine GT_skip rfl rfl rfl rfl rfl (by decide) rfl rfl ?_
          refine GT_st rfl rfl rfl rfl (V_pick_t rfl rfl rfl) ?_
          refine GT_st rfl rfl rfl rfl (V_move rfl rfl) ?_
          refine GT_skip rfl rfl rfl rfl rfl (by decide) rfl rfl ?_
          refine GT_skip rfl rfl rfl rfl rfl (by decide) rfl rfl ?_
          refine GT_skip_ld rfl rfl rfl rfl rfl (by decide) rfl rfl rfl (GR_nil) ?_
          refine GT_skip rfl rfl rfl rfl rfl (by decide) rfl rfl ?_
          refine GT_st rfl rfl rfl rfl (V_pick_t rfl rfl rfl) ?_
          refine GT_st rfl rfl rfl rfl (V_move rfl rfl) ?_
          refine GT_skip rfl rfl rfl rfl rfl (by decide) rfl rfl ?_
          refine GT_skip rfl rfl rfl rfl rfl (by decide) rfl rfl ?_
          refine GT_skip rfl rfl rfl rfl rfl (by decide) rfl rfl ?_
          refine GT_st rfl rfl rfl rfl (V_pick_t rfl rfl rfl) ?_
          refine GT_nil ?_
          refine GE_cond_t rfl ?_
          refine GE_seq ?_
          refine GE_slots (L' := []) trivial ?_
          refine GE_plain (.ld 0 [] (.st 1 .nil)) rfl ?_
          refine GT_call0 rfl rfl rfl rfl rfl rfl rfl rfl rn_16 (fun w hw => C_Works) (GR_nil) ?_
          refine GT_st rfl rfl rfl rfl (V_assign rfl rfl) ?_
          refine GT_nil ?_
          refine GE_ret Tryd.func12 rfl (fun w hw => ⟨?_, hw.nil⟩)
          rfl
        · skip
          refine GT_st_g rfl rfl rfl rfl rfl rfl rfl (V_move rfl rfl) ?_
          refine GT_st_g rfl rfl rfl rfl rfl rfl rfl (V_move rfl rfl) ?_
          refine GT_call0_g rfl rfl rfl rfl rfl rfl rfl rfl rfl rfl rfl rn_21 (fun w hw => C_rCheckProgramme (h.sh hw) (hp.sh hw)) (GR_nil) ?_
          refine GT_st_g rfl rfl rfl rfl rfl rfl rfl (V_neq rfl rfl rfl) ?_
          refine GT_st rfl rfl rfl rfl (V_pick_f rfl rfl rfl) ?_
          refine GT_st rfl rfl rfl rfl (V_move rfl rfl) ?_
          first | refine GT_splitNot (d := 46) rfl (fun q5 => ?_) (fun q5 => ?_) | refine GT_split (d := 46) rfl (fun q5 => ?_) (fun q5 => ?_) | refine GT_splitNotB (d := 46) rfl (fun q5 => ?_) (fun q5 => ?_) | refine GT_splitB (d := 46) rfl (fun q5 => ?_) (fun q5 => ?_)
          · skip
            refine GT_skip rfl rfl rfl rfl rfl (by decide) rfl rfl ?_
            refine GT_skip rfl rfl rfl rfl rfl (by decide) rfl rfl ?_
            refine GT_skip_ld rfl rfl rfl rfl rfl (by decide) rfl rfl rfl (GR_nil) ?_
            refine GT_skip rfl rfl rfl rfl rfl (by decide) rfl rfl ?_
            refine GT_st rfl rfl rfl rfl (V_pick_t rfl rfl rfl) ?_
            refine GT_st rfl rfl rfl rfl (V_move rfl rfl) ?_
            refine GT_skip rfl rfl rfl rfl rfl (by decide) rfl rfl ?_
            refine GT_skip rfl rfl rfl rfl rfl (by decide) rfl rfl ?_
            refine GT_skip rfl rfl rfl rfl rfl (by decide) rfl rfl ?_
            refine GT_st rfl rfl rfl rfl (V_pick_t rfl rfl rfl) ?_
            refine GT_nil ?_
            refine GE_cond_t rfl ?_
            refine GE_seq ?_
            refine GE_slots (L' := []) trivial ?_
            refine GE_plain (.ld 0 [] (.st 1 .nil)) rfl ?_
            refine GT_call0 rfl rfl rfl rfl rfl rfl rfl rfl rn_16 (fun w hw => C_Works) (GR_nil) ?_
            refine GT_st rfl rfl rfl rfl (V_assign rfl rfl) ?_
            refine GT_nil ?_
            refine GE_ret Tryd.func12 rfl (fun w hw => ⟨?_, hw.nil⟩)
            rfl
          · skip
            refine GT_st_g rfl rfl rfl rfl rfl rfl rfl (V_move rfl rfl) ?_
            refine GT_st_g rfl rfl rfl rfl rfl rfl rfl (V_move rfl rfl) ?_
            refine GT_call0_g rfl rfl rfl rfl rfl rfl rfl rfl rfl rfl rfl rn_21 (fun w hw => C_rCheckProgramme (h.sh hw) (hq.sh hw)) (GR_nil) ?_
            refine GT_st_g rfl rfl rfl rfl rfl rfl rfl (V_neq rfl rfl rfl) ?_
            refine GT_st rfl rfl rfl rfl (V_pick_f rfl rfl rfl) ?_
            refine GT_st rfl rfl rfl rfl (V_move rfl rfl) ?_
            first | refine GT_splitNot (d := 52) rfl (fun q6 => ?_) (fun q6 => ?_) | refine GT_split (d := 52) rfl (fun q6 => ?_) (fun q6 => ?_) | refine GT_splitNotB (d := 52) rfl (fun q6 => ?_) (fun q6 => ?_) | refine GT_splitB (d := 52) rfl (fun q6 => ?_) (fun q6 => ?_)
            · skip
              refine GT_skip rfl rfl rfl rfl rfl (by decide) rfl rfl ?_
              refine GT_skip rfl rfl rfl rfl rfl (by decide) rfl rfl ?_
              refine GT_skip rfl rfl rfl rfl rfl (by decide) rfl rfl ?_
              refine GT_st rfl rfl rfl rfl (V_pick_t rfl rfl rfl) ?_
              refine GT_nil ?_
              refine GE_cond_t rfl ?_
              refine GE_seq ?_
              refine GE_slots (L' := []) trivial ?_
              refine GE_plain (.ld 0 [] (.st 1 .nil)) rfl ?_
              refine GT_call0 rfl rfl rfl rfl rfl rfl rfl rfl rn_16 (fun w hw => C_Works) (GR_nil) ?_
              refine GT_st rfl rfl rfl rfl (V_assign rfl rfl) ?_
              refine GT_nil ?_
              refine GE_ret Tryd.func12 rfl (fun w hw => ⟨?_, hw.nil⟩)
              rfl
            · skip
              refine GT_st_g rfl rfl rfl rfl rfl rfl rfl (V_move rfl rfl) ?_
              refine GT_st_g rfl rfl rfl rfl rfl rfl rfl (V_len rfl Tryd.underlying31 rfl) ?_
              refine GT_st_g rfl rfl rfl rfl rfl rfl rfl (V_eql rfl rfl rfl) ?_
              refine GT_st rfl rfl rfl rfl (V_pick_f rfl rfl rfl) ?_
              refine GT_nil ?_
              first | refine GE_condNot rfl (fun q7 => ?_) (fun q7 => ?_) | refine GE_cond rfl (fun q7 => ?_) (fun q7 => ?_) | refine GE_condNotB rfl (fun q7 => ?_) (fun q7 => ?_) | refine GE_condB rfl (fun q7 => ?_) (fun q7 => ?_)
              · skip
                refine GE_seq ?_
                refine GE_slots (L' := []) trivial ?_
                refine GE_plain (.ld 0 [] (.st 1 .nil)) rfl ?_
                refine GT_call0 rfl rfl rfl rfl rfl rfl rfl rfl rn_16 (fun w hw => C_Works) (GR_nil) ?_
                refine GT_st rfl rfl rfl rfl (V_assign rfl rfl) ?_
                refine GT_nil ?_
                refine GE_ret Tryd.func12 rfl (fun w hw => ⟨?_, hw.nil⟩)
                rfl
              · have hP := gErr_zero.1 (show gErr l p = 0 by omega); have hQ := gErr_zero.1 (show gErr l q = 0 by omega); have hq0 : 0 < q.length := (by omega)
                refine GE_skip ?_
                refine GE_seq ?_
                refine GE_slots (L' := [(0, _), (1, _), (2, _)]) ⟨rfl, rfl, rfl, trivial⟩ ?_
                refine GE_plain (.ld 0 [] (.st 1 (.ld 2 [] (.st 3 .nil)))) rfl ?_
                refine GT_buildSlice (z := []) rfl rfl rfl rfl rfl Tryd.underlying31 zc_30 sz_30 (by decide) rfl rfl (fun _ => GR_nil) (fun b58 => ?_)
                refine GT_st rfl rfl rfl rfl (V_move rfl rfl) ?_
                refine GT_append (enc := ePrt) (l := []) (I := [(b58, blk [] 30)]) (m := q) rfl rfl rfl rfl rfl rfl rfl (Own.lit (l := []) rfl rfl (by decide)) (fun w m => hq.sh m) Tryd.underlying31 zc_30 sz_30 ⟨rfl, by decide⟩ by_30 ⟨by simp only [List.length_nil]; omega, by simp only [List.length_nil]; omega⟩ ePrt_len ePrt_one (fun _ _ _ _ => GR_nil) (fun A4 c4 I4 hO4 => ?_)
                rw [List.nil_append] at hO4 ⊢
                refine GT_st rfl rfl rfl rfl (V_assign rfl rfl) ?_
                refine GT_nil ?_
                refine GE_seq ?_
                refine GE_plain (.st 0 (.st 1 (.st 2 (.ld 3 [] .nil)))) rfl ?_
                refine GT_st rfl rfl rfl rfl (V_move rfl rfl) ?_
                refine GT_st rfl rfl rfl rfl (V_index (k := 0) rfl rfl rfl Tryd.underlying31 sz_30 rfl (by omega) (hO4.isSome (k := 0) (by omega))) ?_
                first | refine GT_st rfl rfl rfl rfl (V_field rfl rfl fo_30_3) ?_ | refine GT_st rfl rfl rfl rfl (V_fieldA rfl rfl fo_30_3) ?_
                refine GT_storeF (enc := ePrt) (q := 0) (j := 3) (xx := gapd (pt q 0) 0) rfl rfl rfl rfl rfl rfl rfl sz_3 hO4 ePrt_len rfl (by omega) (by decide) rfl (fun _ _ => GR_nil) (fun I5 hO5 => ?_)
                refine GT_nil ?_
                refine GE_seq ?_
                refine GE_slots (L' := [(0, _), (1, _), (2, _), (7, _)]) ⟨rfl, rfl, rfl, rfl, trivial⟩ ?_
                refine GE_plain (.ld 0 [] (.st 1 (.ld 2 [] (.st 3 (.ld 4 [] (.st 5 .nil)))))) rfl ?_
                refine GT_buildSlice (z := []) rfl rfl rfl rfl rfl Tryd.underlying31 zc_30 sz_30 (by decide) rfl rfl (fun _ => GR_nil) (fun b64 => ?_)
                refine GT_st rfl rfl rfl rfl (V_move rfl rfl) ?_
                refine GT_append (enc := ePrt) (l := []) (I := [(b64, blk [] 30)]) (m := p) rfl rfl rfl rfl rfl rfl rfl (Own.lit (l := []) rfl rfl (by decide)) (fun w m => hp.sh m) Tryd.underlying31 zc_30 sz_30 ⟨rfl, by decide⟩ by_30 ⟨by simp only [List.length_nil]; omega, by simp only [List.length_nil]; omega⟩ ePrt_len ePrt_one (fun _ _ _ _ => GR_nil) (fun A6 c6 I6 hO6 => ?_)
                rw [List.nil_append] at hO6 ⊢
                refine GT_st rfl rfl rfl rfl (V_move rfl rfl) ?_
                refine GT_append (enc := ePrt) (l := p) (m := q) rfl rfl rfl rfl rfl rfl rfl hO6 (fun w m => hq.sh m) Tryd.underlying31 zc_30 sz_30 ⟨rfl, by decide⟩ by_30 ⟨by omega, by omega⟩ ePrt_len ePrt_one (fun _ _ _ _ => GR_nil) (fun A7 c7 I7 hO7 => ?_)
                refine GT_st rfl rfl rfl rfl (V_assign rfl rfl) ?_
                refine GT_nil ?_
                refine GE_seq ?_
                refine GE_seq ?_
                refine GE_slots (L' := [(0, _), (1, _), (2, _), (7, _), (8, _)]) ⟨rfl, rfl, rfl, rfl, rfl, trivial⟩ ?_
                refine GE_plain (.st 0 (.st 1 (.ld 2 [] (.st 3 .nil)))) rfl ?_
                refine GT_st rfl rfl rfl rfl (V_move rfl rfl) ?_
                refine GT_st rfl rfl rfl rfl (V_move rfl rfl) ?_
                refine GT_call0 rfl rfl rfl rfl rfl rfl rfl rfl rn_21 (fun w hw => C_rCheckProgramme (h.sh hw) (hO7.rdH ePrt_len hw)) (GR_nil) ?_
                refine GT_st rfl rfl rfl rfl (V_neq rfl rfl rfl) ?_
                refine GT_nil ?_
                first | refine GE_condNot rfl (fun q8 => ?_) (fun q8 => ?_) | refine GE_cond rfl (fun q8 => ?_) (fun q8 => ?_) | refine GE_condNotB rfl (fun q8 => ?_) (fun q8 => ?_) | refine GE_condB rfl (fun q8 => ?_) (fun q8 => ?_)
                · skip
                  refine GE_seq ?_
                  refine GE_slots (L' := [(0, _), (8, _)]) ⟨rfl, rfl, trivial⟩ ?_
                  refine GE_plain (.st 0 (.st 1 (.ld 2 [] (.st 3 (.st 4 (.ld 5 [] (.st 6 (.st 7 .nil)))))))) rfl ?_
                  refine GT_st rfl rfl rfl rfl (V_move rfl rfl) ?_
                  refine GT_st rfl rfl rfl rfl (V_move rfl rfl) ?_
                  refine GT_call0 rfl rfl rfl rfl rfl rfl rfl rfl rn_33 (fun w hw => C_ChkN (p := p ++ q) (h.sh hw) (hO7.rdH ePrt_len hw) rfl) (GR_nil) ?_
                  refine GT_st rfl rfl rfl rfl (V_isT (V_eql rfl rfl rfl) (by rcases gErr_app (l := l) (p := p) (q := q) (by omega) (by omega) (by omega) (by omega) with e | e; exact absurd e q8; exact e)) ?_
                  refine GT_st rfl rfl rfl rfl (V_move rfl rfl) ?_
                  refine GT_call0_g rfl rfl rfl rfl rfl rfl rfl rfl rfl rfl rfl rn_16 (fun w hw => C_Works) (GR_nil) ?_
                  refine GT_st rfl rfl rfl rfl (V_pick_t rfl rfl rfl) ?_
                  refine GT_st rfl rfl rfl rfl (V_assign rfl rfl) ?_
                  refine GT_nil ?_
                  refine GE_ret Tryd.func12 rfl (fun w hw => ⟨?_, hw.nil⟩)
                  rfl
                · have hW := gErr_zero.1 q8; obtain ⟨hC, hg0, eT, eC⟩ := join_cut hP hQ hq0 hW; have hmx := cut_mix hC (va := vR l ((p ++ q).take p.length)) (vb := vR l (cutP (p ++ q) p.length (fin p + (pt q 0).gap))) (v := vR l (p ++ q)) vR_cutA vR_cutB; have hre := cut_rerr hC; have hOB := cut_okB hC; have hhd := hd_min hW hP (b := cutP (p ++ q) p.length (fin p + (pt q 0).gap)) hOB (fun f _ _ => by have := cut_okH (f := f) hC; rw [eT] at this; exact this); rw [eT, eC] at hmx hre; rw [eC] at hOB hhd; have lS : (q.set 0 (gapd (pt q 0) 0)).length = q.length := List.length_set ..; have hrp := rendL_len hP; have hrb := rendL_len hOB; have hf1 := hP.fin; have hf2 := hOB.fin; have hf3 := fin_nonneg hP; have hgq := (hQ.each 0 hq0).gap
                  refine GE_skip ?_
                  refine GE_seq ?_
                  refine GE_slots (L' := [(0, _), (1, _), (2, _), (7, _), (8, _)]) ⟨rfl, rfl, rfl, rfl, rfl, trivial⟩ ?_
                  refine GE_plain (.st 0 (.st 1 (.ld 2 [] (.st 3 (.st 4 (.st 5 (.st 6 (.st 7 .nil)))))))) rfl ?_
                  refine GT_st rfl rfl rfl rfl (V_move rfl rfl) ?_
                  refine GT_st rfl rfl rfl rfl (V_move rfl rfl) ?_
                  refine GT_call rfl rfl rfl rfl rfl rfl rfl rfl rn_17 (fun w hw => C_Render (h.sh hw) (hp.sh hw)) (fun _ _ => GR_nil) (fun ra hra => ?_)
                  refine GT_st rfl rfl rfl rfl (V_move rfl rfl) ?_
                  refine GT_st rfl rfl rfl rfl (V_extract rfl rfl rfl) ?_
                  refine GT_st rfl rfl rfl rfl (V_extract rfl rfl rfl) ?_
                  refine GT_st rfl rfl rfl rfl (V_assign rfl rfl) ?_
                  refine GT_st rfl rfl rfl rfl (V_assign rfl rfl) ?_
                  refine GT_nil ?_
                  refine GE_seq ?_
                  refine GE_slots (L' := [(0, _), (1, _), (2, _), (7, _), (8, _), (9, _), (10, _)]) ⟨rfl, rfl, rfl, rfl, rfl, rfl, rfl, trivial⟩ ?_
                  refine GE_plain (.st 0 (.st 1 (.ld 2 [] (.st 3 (.st 4 (.st 5 (.st 6 (.st 7 .nil)))))))) rfl ?_
                  refine GT_st rfl rfl rfl rfl (V_move rfl rfl) ?_
                  refine GT_st rfl rfl rfl rfl (V_move rfl rfl) ?_
                  refine GT_call rfl rfl rfl rfl rfl rfl rfl rfl rn_17 (fun w hw => C_RenderN (p := q.set 0 (gapd (pt q 0) 0)) (h.sh hw) (hO5.rdH ePrt_len hw) lS.symm) (fun _ _ => GR_nil) (fun rb hrB => ?_)
                  refine GT_st rfl rfl rfl rfl (V_move rfl rfl) ?_
                  refine GT_st rfl rfl rfl rfl (V_extract rfl rfl rfl) ?_
                  refine GT_st rfl rfl rfl rfl (V_extract rfl rfl rfl) ?_
                  refine GT_st rfl rfl rfl rfl (V_assign rfl rfl) ?_
                  refine GT_st rfl rfl rfl rfl (V_assign rfl rfl) ?_
                  refine GT_nil ?_
                  refine GE_seq ?_
                  refine GE_slots (L' := [(0, _), (1, _), (2, _), (7, _), (8, _), (9, _), (10, _), (11, _), (12, _)]) ⟨rfl, rfl, rfl, rfl, rfl, rfl, rfl, rfl, rfl, trivial⟩ ?_
                  refine GE_plain (.st 0 (.st 1 (.ld 2 [] (.st 3 (.st 4 (.st 5 (.st 6 (.st 7 .nil)))))))) rfl ?_
                  refine GT_st rfl rfl rfl rfl (V_move rfl rfl) ?_
                  refine GT_st rfl rfl rfl rfl (V_move rfl rfl) ?_
                  refine GT_call rfl rfl rfl rfl rfl rfl rfl rfl rn_17 (fun w hw => C_RenderN (p := p ++ q) (h.sh hw) (hO7.rdH ePrt_len hw) rfl) (fun _ _ => GR_nil) (fun rc hrc => ?_)
                  refine GT_st rfl rfl rfl rfl (V_move rfl rfl) ?_
                  refine GT_st rfl rfl rfl rfl (V_extract rfl rfl rfl) ?_
                  refine GT_st rfl rfl rfl rfl (V_extract rfl rfl rfl) ?_
                  refine GT_st rfl rfl rfl rfl (V_assign rfl rfl) ?_
                  refine GT_st rfl rfl rfl rfl (V_assign rfl rfl) ?_
                  refine GT_nil ?_
                  refine GE_seq ?_
                  refine GE_slots (L' := [(0, _), (1, _), (2, _), (7, _), (8, _), (9, _), (10, _), (11, _), (12, _), (13, _), (14, _)]) ⟨rfl, rfl, rfl, rfl, rfl, rfl, rfl, rfl, rfl, rfl, rfl, trivial⟩ ?_
                  refine GE_plain (.st 0 (.st 1 (.ld 2 [] (.st 3 (.st 4 (.st 5 (.st 6 (.st 7 .nil)))))))) rfl ?_
                  refine GT_st rfl rfl rfl rfl (V_move rfl rfl) ?_
                  refine GT_st rfl rfl rfl rfl (V_move rfl rfl) ?_
                  refine GT_call0 rfl rfl rfl rfl rfl rfl rfl rfl rn_34 (fun w hw => C_HeadOk (h.sh hw) (hp.sh hw) rfl hP) (GR_nil) ?_
                  refine GT_st rfl rfl rfl rfl (V_move rfl rfl) ?_
                  refine GT_st rfl rfl rfl rfl (V_extract rfl rfl rfl) ?_
                  refine GT_st rfl rfl rfl rfl (V_extract rfl rfl rfl) ?_
                  refine GT_st rfl rfl rfl rfl (V_assign rfl rfl) ?_
                  refine GT_st rfl rfl rfl rfl (V_assign rfl rfl) ?_
                  refine GT_nil ?_
                  refine GE_seq ?_
                  refine GE_slots (L' := [(0, _), (2, _), (7, _), (8, _), (9, _), (10, _), (11, _), (12, _), (13, _), (14, _), (15, _), (16, _)]) ⟨rfl, rfl, rfl, rfl, rfl, rfl, rfl, rfl, rfl, rfl, rfl, rfl, trivial⟩ ?_
                  refine GE_plain (.st 0 (.st 1 (.ld 2 [] (.st 3 (.st 4 (.st 5 (.st 6 (.st 7 .nil)))))))) rfl ?_
                  refine GT_st rfl rfl rfl rfl (V_move rfl rfl) ?_
                  refine GT_st rfl rfl rfl rfl (V_move rfl rfl) ?_
                  refine GT_call0 rfl rfl rfl rfl rfl rfl rfl rfl rn_34 (fun w hw => C_HeadOk (p := q.set 0 (gapd (pt q 0) 0)) (h.sh hw) (hO5.rdH ePrt_len hw) lS.symm hOB) (GR_nil) ?_
                  refine GT_st rfl rfl rfl rfl (V_move rfl rfl) ?_
                  refine GT_st rfl rfl rfl rfl (V_extract rfl rfl rfl) ?_
                  refine GT_st rfl rfl rfl rfl (V_extract rfl rfl rfl) ?_
                  refine GT_st rfl rfl rfl rfl (V_assign rfl rfl) ?_
                  refine GT_st rfl rfl rfl rfl (V_assign rfl rfl) ?_
                  refine GT_nil ?_
                  refine GE_seq ?_
                  refine GE_slots (L' := [(0, _), (2, _), (8, _), (9, _), (10, _), (11, _), (12, _), (13, _), (14, _), (15, _), (16, _), (17, _), (18, _)]) ⟨rfl, rfl, rfl, rfl, rfl, rfl, rfl, rfl, rfl, rfl, rfl, rfl, rfl, trivial⟩ ?_
                  refine GE_plain (.st 0 (.st 1 (.ld 2 [] (.st 3 (.st 4 (.st 5 (.st 6 (.st 7 .nil)))))))) rfl ?_
                  refine GT_st rfl rfl rfl rfl (V_move rfl rfl) ?_
                  refine GT_st rfl rfl rfl rfl (V_move rfl rfl) ?_
                  refine GT_call0 rfl rfl rfl rfl rfl rfl rfl rfl rn_34 (fun w hw => C_HeadOk (p := p ++ q) (h.sh hw) (hO7.rdH ePrt_len hw) rfl hW) (GR_nil) ?_
                  refine GT_st rfl rfl rfl rfl (V_move rfl rfl) ?_
                  refine GT_st rfl rfl rfl rfl (V_extract rfl rfl rfl) ?_
                  refine GT_st rfl rfl rfl rfl (V_extract rfl rfl rfl) ?_
                  refine GT_st rfl rfl rfl rfl (V_assign rfl rfl) ?_
                  refine GT_st rfl rfl rfl rfl (V_assign rfl rfl) ?_
                  refine GT_nil ?_
                  refine GE_seq ?_
                  refine GE_seq ?_
                  refine GE_slots (L' := [(2, _), (9, _), (10, _), (11, _), (12, _), (13, _), (14, _), (15, _), (16, _), (17, _), (18, _), (19, _), (20, _)]) ⟨rfl, rfl, rfl, rfl, rfl, rfl, rfl, rfl, rfl, rfl, rfl, rfl, rfl, trivial⟩ ?_
                  refine GE_plain (.st 0 (.st 1 (.st 2 (.st 3 (.st 4 (.st 5 (.st 6 (.st 7 (.st 8 (.st 9 (.st 10 (.st 11 (.st 12 (.st 13 (.st 14 (.st 15 (.st 16 .nil))))))))))))))))) rfl ?_
                  refine GT_st rfl rfl rfl rfl (V_move rfl rfl) ?_
                  refine GT_st rfl rfl rfl rfl (V_isF (V_neq rfl rfl rfl) (fun q => q rfl)) ?_
                  refine GT_st rfl rfl rfl rfl (V_move rfl rfl) ?_
                  refine GT_st_g rfl rfl rfl rfl rfl rfl rfl (V_move rfl rfl) ?_
                  refine GT_st_g rfl rfl rfl rfl rfl rfl rfl (V_isF (V_neq rfl rfl rfl) (fun q => q rfl)) ?_
                  refine GT_st rfl rfl rfl rfl (V_pick_f rfl rfl rfl) ?_
                  refine GT_st rfl rfl rfl rfl (V_move rfl rfl) ?_
                  refine GT_st_g rfl rfl rfl rfl rfl rfl rfl (V_move rfl rfl) ?_
                  refine GT_st_g rfl rfl rfl rfl rfl rfl rfl (V_isF (V_neq rfl rfl rfl) (fun q => q rfl)) ?_
                  refine GT_st rfl rfl rfl rfl (V_pick_f rfl rfl rfl) ?_
                  refine GT_st rfl rfl rfl rfl (V_move rfl rfl) ?_
                  refine GT_st_g rfl rfl rfl rfl rfl rfl rfl (V_move rfl rfl) ?_
                  refine GT_st_g rfl rfl rfl rfl rfl rfl rfl (V_move rfl rfl) ?_
                  refine GT_st_g rfl rfl rfl rfl rfl rfl rfl (V_move rfl rfl) ?_
                  refine GT_st_g rfl rfl rfl rfl rfl rfl rfl (V_min rfl rfl rfl) ?_
                  refine GT_st_g rfl rfl rfl rfl rfl rfl rfl (V_isF (V_neq rfl rfl rfl) (fun q => q hhd)) ?_
                  refine GT_st rfl rfl rfl rfl (V_pick_f rfl rfl rfl) ?_
                  refine GT_nil ?_
                  refine GE_cond_f rfl ?_
                  refine GE_skip ?_
                  refine GE_seq ?_
                  refine GE_seq ?_
                  refine GE_slots (L' := [(2, _), (9, _), (10, _), (11, _), (12, _), (13, _), (14, _)]) ⟨rfl, rfl, rfl, rfl, rfl, rfl, rfl, trivial⟩ ?_
                  refine GE_plain (.st 0 (.st 1 (.st 2 (.st 3 (.st 4 (.st 5 .nil)))))) rfl ?_
                  refine GT_st rfl rfl rfl rfl (V_move rfl rfl) ?_
                  refine GT_st rfl rfl rfl rfl (V_neq rfl rfl rfl) ?_
                  refine GT_st rfl rfl rfl rfl (V_move rfl rfl) ?_
                  first | refine GT_splitNot (d := 135) rfl (fun q9 => ?_) (fun q9 => ?_) | refine GT_split (d := 135) rfl (fun q9 => ?_) (fun q9 => ?_) | refine GT_splitNotB (d := 135) rfl (fun q9 => ?_) (fun q9 => ?_) | refine GT_splitB (d := 135) rfl (fun q9 => ?_) (fun q9 => ?_)
                  · have hne : rErr l (p ++ q) ≠ 0 := (fun e => q9 (hre.1 e).1)
                    refine GT_skip rfl rfl rfl rfl rfl (by decide) rfl rfl ?_
                    refine GT_skip rfl rfl rfl rfl rfl (by decide) rfl rfl ?_
                    refine GT_st rfl rfl rfl rfl (V_pick_t rfl rfl rfl) ?_
                    refine GT_nil ?_
                    refine GE_cond_t rfl ?_
                    refine GE_seq ?_
                    refine GE_slots (L' := [(14, _)]) ⟨rfl, trivial⟩ ?_
                    refine GE_plain (.st 0 (.st 1 (.st 2 (.ld 3 [] (.st 4 (.st 5 .nil)))))) rfl ?_
                    refine GT_st rfl rfl rfl rfl (V_move rfl rfl) ?_
                    refine GT_st rfl rfl rfl rfl (V_isT (V_eql rfl rfl rfl) (by rcases rErr_two (gErr_zero.2 hW) with e | e; exact absurd e hne; exact e)) ?_
                    refine GT_st rfl rfl rfl rfl (V_move rfl rfl) ?_
                    refine GT_call0_g rfl rfl rfl rfl rfl rfl rfl rfl rfl rfl rfl rn_16 (fun w hw => C_Works) (GR_nil) ?_
                    refine GT_st rfl rfl rfl rfl (V_pick_t rfl rfl rfl) ?_
                    refine GT_st rfl rfl rfl rfl (V_assign rfl rfl) ?_
                    refine GT_nil ?_
                    refine GE_ret Tryd.func12 rfl (fun w hw => ⟨?_, hw.nil⟩)
                    rfl
                  · skip
                    refine GT_st_g rfl rfl rfl rfl rfl rfl rfl (V_move rfl rfl) ?_
                    refine GT_st_g rfl rfl rfl rfl rfl rfl rfl (V_neq rfl rfl rfl) ?_
                    refine GT_st rfl rfl rfl rfl (V_pick_f rfl rfl rfl) ?_
                    refine GT_nil ?_
                    first | refine GE_condNot rfl (fun q10 => ?_) (fun q10 => ?_) | refine GE_cond rfl (fun q10 => ?_) (fun q10 => ?_) | refine GE_condNotB rfl (fun q10 => ?_) (fun q10 => ?_) | refine GE_condB rfl (fun q10 => ?_) (fun q10 => ?_)
                    · have hne : rErr l (p ++ q) ≠ 0 := (fun e => q10 (hre.1 e).2)
                      refine GE_seq ?_
                      refine GE_slots (L' := [(14, _)]) ⟨rfl, trivial⟩ ?_
                      refine GE_plain (.st 0 (.st 1 (.st 2 (.ld 3 [] (.st 4 (.st 5 .nil)))))) rfl ?_
                      refine GT_st rfl rfl rfl rfl (V_move rfl rfl) ?_
                      refine GT_st rfl rfl rfl rfl (V_isT (V_eql rfl rfl rfl) (by rcases rErr_two (gErr_zero.2 hW) with e | e; exact absurd e hne; exact e)) ?_
                      refine GT_st rfl rfl rfl rfl (V_move rfl rfl) ?_
                      refine GT_call0_g rfl rfl rfl rfl rfl rfl rfl rfl rfl rfl rfl rn_16 (fun w hw => C_Works) (GR_nil) ?_
                      refine GT_st rfl rfl rfl rfl (V_pick_t rfl rfl rfl) ?_
                      refine GT_st rfl rfl rfl rfl (V_assign rfl rfl) ?_
                      refine GT_nil ?_
                      refine GE_ret Tryd.func12 rfl (fun w hw => ⟨?_, hw.nil⟩)
                      rfl
                    · have hz : rErr l (p ++ q) = 0 := hre.2 ⟨q9, q10⟩; have eP : rendL l (p ++ q) = rend l (p ++ q) := if_pos hz; have eA : rendL l p = rend l p := if_pos q9; have eB : rendL l (q.set 0 (gapd (pt q 0) 0)) = rend l (q.set 0 (gapd (pt q 0) 0)) := if_pos q10; have la := hrp.2 q9; have lb := hrb.2 q10
                      refine GE_skip ?_
                      refine GE_seq ?_
                      refine GE_slots (L' := [(2, _), (9, _), (11, _), (13, _), (14, _)]) ⟨rfl, rfl, rfl, rfl, rfl, trivial⟩ ?_
                      refine GE_drawn (.st 1 (.st 3 (.st 4 (.st 5 (.st 6 (.st 8 (.ld 0 [1, 3, 4, 5, 6, 8] (.ld 2 [3, 4, 5, 6, 8] (.ld 7 [8] (.ld 9 [] (.st 10 .nil))))))))))) [0, 2, 7, 9] (by decide +kernel) ?_
                      refine GT_st rfl rfl rfl rfl (V_move rfl rfl) ?_
                      refine GT_st rfl rfl rfl rfl (V_move rfl rfl) ?_
                      refine GT_st rfl rfl rfl rfl (V_index (k := 0) rfl rfl rfl Tryd.underlying31 sz_30 rfl hq0 (hq.isSome hq0)) ?_
                      first | refine GT_st rfl rfl rfl rfl (V_field rfl rfl fo_30_3) ?_ | refine GT_st rfl rfl rfl rfl (V_fieldA rfl rfl fo_30_3) ?_
                      refine GT_st rfl rfl rfl rfl (V_load rfl rfl ag_3 (hq.at1 noM hq0 (show _ = some (I (pt q 0).gap) from rfl))) ?_
                      refine GT_st rfl rfl rfl rfl (V_move rfl rfl) ?_
                      refine GT_buildSlice (z := []) rfl rfl rfl rfl rfl Tryd.underlying22 zc_35 sz_35 (by decide) rfl rfl (fun _ => GR_cons rfl rfl rfl rfl (V_move rfl rfl) (GR_cons rfl rfl rfl rfl (V_move rfl rfl) (GR_cons rfl rfl rfl rfl (V_index (k := 0) rfl rfl rfl Tryd.underlying31 sz_30 rfl hq0 (hq.isSome hq0)) (GR_cons rfl rfl rfl rfl ((by first | exact V_field rfl rfl fo_30_3 | exact V_fieldA rfl rfl fo_30_3)) (GR_cons rfl rfl rfl rfl (V_load rfl rfl ag_3 (hq.at1 noM hq0 (show _ = some (I (pt q 0).gap) from rfl))) (GR_cons rfl rfl rfl rfl (V_move rfl rfl) (GR_nil))))))) (fun b144 => ?_)
                      refine GT_append (enc := eSam) (l := []) (I := [(b144, blk [] 35)]) (m := rendL l p) rfl rfl rfl rfl rfl rfl rfl (Own.lit (l := []) rfl rfl (by decide)) (fun w m => hra.rdH eSam_len m) Tryd.underlying22 zc_35 sz_35 ⟨rfl, by decide⟩ by_35 ⟨by simp only [List.length_nil]; omega, by simp only [List.length_nil]; omega⟩ eSam_len eSam_one (fun _ _ _ _ => GR_cons rfl rfl rfl rfl (V_move rfl rfl) (GR_cons rfl rfl rfl rfl (V_index (k := 0) rfl rfl rfl Tryd.underlying31 sz_30 rfl hq0 (hq.isSome hq0)) (GR_cons rfl rfl rfl rfl ((by first | exact V_field rfl rfl fo_30_3 | exact V_fieldA rfl rfl fo_30_3)) (GR_cons rfl rfl rfl rfl (V_load rfl rfl ag_3 (hq.at1 noM hq0 (show _ = some (I (pt q 0).gap) from rfl))) (GR_cons rfl rfl rfl rfl (V_move rfl rfl) (GR_nil)))))) (fun A8 c8 I8 hO8 => ?_)
                      rw [List.nil_append] at hO8 ⊢
                      refine GT_appendZ (enc := eSam) (q := (pt q 0).gap.toNat) (x0 := (⟨0, 0⟩ : Sam)) rfl rfl rfl rfl rfl rfl rfl (by omega) hO8 Tryd.underlying22 Tryd.underlying3 zc_35 sz_35 ⟨rfl, by decide⟩ by_35 ⟨by omega, by omega⟩ eSam_len eSam_one rfl (fun _ _ _ _ => GR_cons rfl rfl rfl rfl (V_move rfl rfl) (GR_nil)) (fun A9 c9 I9 hO9 => ?_)
                      refine GT_append (enc := eSam) (m := rendL l (q.set 0 (gapd (pt q 0) 0))) rfl rfl rfl rfl rfl rfl rfl hO9 (fun w m => hrB.rdH eSam_len m) Tryd.underlying22 zc_35 sz_35 ⟨rfl, by decide⟩ by_35 ⟨by simp only [List.length_append, List.length_replicate]; omega, by simp only [List.length_append, List.length_replicate]; omega⟩ eSam_len eSam_one (fun _ _ _ _ => GR_nil) (fun A10 c10 I10 hO10 => ?_)
                      refine GT_st rfl rfl rfl rfl (V_assign rfl rfl) ?_
                      refine GT_nil ?_
                      refine GE_seq ?_
                      refine GE_slots (L' := [(13, _), (14, _), (21, _)]) ⟨rfl, rfl, rfl, trivial⟩ ?_
                      refine GE_plain (.st 0 (.st 1 (.st 2 (.st 3 (.st 4 (.ld 5 [] (.st 6 (.st 7 (.ld 8 [] (.st 9 (.st 10 .nil))))))))))) rfl ?_
                      refine GT_st rfl rfl rfl rfl (V_move rfl rfl) ?_
                      refine GT_st rfl rfl rfl rfl (V_isT (V_eql rfl rfl rfl) hz) ?_
                      refine GT_st rfl rfl rfl rfl (V_move rfl rfl) ?_
                      refine GT_st_g rfl rfl rfl rfl rfl rfl rfl (V_move rfl rfl) ?_
                      refine GT_st_g rfl rfl rfl rfl rfl rfl rfl (V_move rfl rfl) ?_
                      refine GT_call0_g rfl rfl rfl rfl rfl rfl rfl rfl rfl rfl rfl rn_22 (fun w hw => C_SameT (a := rendL l (p ++ q)) (by rw [eP, eA, eB, show (pt q 0).gap = fin p + (pt q 0).gap - fin p by omega]; exact hmx) (by rw [eP, rend, mix_len]; have := hW.fin; omega) (hrc.rdH eSam_len hw) (hO10.rdH eSam_len hw) rfl rfl) (GR_nil) ?_
                      refine GT_st rfl rfl rfl rfl (V_pick_t rfl rfl rfl) ?_
                      refine GT_st rfl rfl rfl rfl (V_move rfl rfl) ?_
                      refine GT_call0_g rfl rfl rfl rfl rfl rfl rfl rfl rfl rfl rfl rn_16 (fun w hw => C_Works) (GR_nil) ?_
                      refine GT_st rfl rfl rfl rfl (V_pick_t rfl rfl rfl) ?_
                      refine GT_st rfl rfl rfl rfl (V_assign rfl rfl) ?_
                      refine GT_nil ?_
                      refine GE_ret Tryd.func12 rfl (fun w hw => ⟨?_, hw.nil⟩)
                      rfl
def gF (f r : Int) (n : Nat) : Int := if n = 0 then f else if n = 1 then r else f + 1
def pQ (p : List Prt) (g : Int) (i : Nat) : List Prt := (pL p g).take i ++ p.drop i
theorem pQ_len {g : Int} {i : Nat} (hi : i ≤ p.length) : (pQ p g i).length = p.length := by unfold pQ; simp [pL_len]; omega
theorem pQ_get {g : Int} {i : Nat} (hi : i < p.length) : (pQ p g i).getD i default = pt p i := by
  unfold pQ
  rw [List.getD, List.getElem?_append_right (by rw [List.length_take, pL_len]; omega), List.length_take, pL_len, Nat.min_eq_left (by omega), Nat.sub_self, List.getElem?_drop]; rfl
theorem pQ_set {g : Int} {i : Nat} (hi : i < p.length) : (pQ p g i).set i (levd (pt p i) g) = pQ p g (i + 1) := by
  unfold pQ
  have e1 : ((pL p g).take i).length = i := by rw [List.length_take, pL_len]; omega
  rw [List.set_append_right _ _ (by omega), e1, Nat.sub_self, take_snoc (l := pL p g) (by rw [pL_len]; exact hi), show (pL p g).getD i default = levd (pt p i) g from pL_get hi, List.append_assoc]
  congr 1
  rw [List.drop_eq_getElem_cons hi]; rfl
theorem pQ_zero {g : Int} : pQ p g 0 = p := by unfold pQ; simp
theorem pQ_all {g : Int} : pQ p g p.length = pL p g := by unfold pQ; rw [List.drop_length, List.append_nil, List.take_of_length_le (by rw [pL_len]; exact Nat.le_refl _)]
theorem C_RendErr {n : Nat} (h : Tks w A l) (hp : RdL w 7 ePrt A2 p) (hn : n = p.length) : Con Tryd.prog 17 [.slice A l.length c, .slice A2 n c2] w (fun _ : OI => True)
    (fun y => .tuple #[.slice y.1 (rendL l p).length y.2.1, I (rErr l p)]) (fun y => y.2.2) :=
  (C_RenderN (c := c) (c2 := c2) h hp hn).mono fun _ _ ⟨y, _, h2⟩ => ⟨y, trivial, h2⟩
set_option maxRecDepth 20000 in
set_option maxHeartbeats 4000000 in
theorem L_TakeHeadroom {less : Int} (h : Tks w A l) (_hl : l.length ≤ c ∧ c ≤ maxLen) (hp : RdL w 7 ePrt A2 p) (_hx : p.length ≤ c2 ∧ c2 ≤ maxLen ∧ ∀ x ∈ p, x.wf) (hs : 0 ≤ less ∧ less ≤ 65535) : Con0 Tryd.prog 9 [.slice A l.length c, .slice A2 p.length c2, .int .u16 less] w (.bool true) := by
  have hb := hd_bd l p
  have hr : 0 ≤ less.tmod (hd l p + 1) ∧ less.tmod (hd l p + 1) ≤ hd l p := by
    rw [Int.tmod_eq_emod_of_nonneg hs.1]
    have h1 := Int.emod_nonneg less (show hd l p + 1 ≠ 0 by omega)
    have h2 := Int.emod_lt_of_pos less (show 0 < hd l p + 1 by omega)
    omega
  refine Ret_of (vs := [_, _, _]) hm none' Tryd.func9 rfl Tryd.ntmps9 rfl ?_
  dsimp only [slotsOf]
  refine GE_seq ?_
  refine GE_plain (.st 0 .nil) rfl ?_
  refine GT_st rfl rfl rfl rfl (V_assign rfl rfl) ?_
  refine GT_nil ?_
  refine GE_seq ?_
  refine GE_seq ?_
  refine GE_plain (.st 0 (.st 1 (.ld 2 [] (.st 3 (.st 4 (.st 5 (.ld 6 [] (.st 7 (.st 8 .nil))))))))) rfl ?_
  refine GT_st rfl rfl rfl rfl (V_move rfl rfl) ?_
  refine GT_st rfl rfl rfl rfl (V_move rfl rfl) ?_
  refine GT_call0 rfl rfl rfl rfl rfl rfl rfl rfl rn_20 (fun w hw => C_great (h.sh hw)) (GR_nil) ?_
  refine GT_st rfl rfl rfl rfl (V_move rfl rfl) ?_
  first | refine GT_splitNot (d := 19) rfl (fun q1 => ?_) (fun q1 => ?_) | refine GT_split (d := 19) rfl (fun q1 => ?_) (fun q1 => ?_) | refine GT_splitNotB (d := 19) rfl (fun q1 => ?_) (fun q1 => ?_) | refine GT_splitB (d := 19) rfl (fun q1 => ?_) (fun q1 => ?_)
  · skip
    refine GT_skip rfl rfl rfl rfl rfl (by decide) rfl rfl ?_
    refine GT_skip rfl rfl rfl rfl rfl (by decide) rfl rfl ?_
    refine GT_skip_ld rfl rfl rfl rfl rfl (by decide) rfl rfl rfl (GR_nil) ?_
    refine GT_skip rfl rfl rfl rfl rfl (by decide) rfl rfl ?_
    refine GT_st rfl rfl rfl rfl (V_pick_t rfl rfl rfl) ?_
    refine GT_nil ?_
    refine GE_cond_t rfl ?_
    refine GE_seq ?_
    refine GE_slots (L' := []) trivial ?_
    refine GE_plain (.ld 0 [] (.st 1 .nil)) rfl ?_
    refine GT_call0 rfl rfl rfl rfl rfl rfl rfl rfl rn_16 (fun w hw => C_Works) (GR_nil) ?_
    refine GT_st rfl rfl rfl rfl (V_assign rfl rfl) ?_
    refine GT_nil ?_
    refine GE_ret Tryd.func9 rfl (fun w hw => ⟨?_, hw.nil⟩)
    rfl
  · have hgr := greatB_no q1
    refine GT_st_g rfl rfl rfl rfl rfl rfl rfl (V_move rfl rfl) ?_
    refine GT_st_g rfl rfl rfl rfl rfl rfl rfl (V_move rfl rfl) ?_
    refine GT_call0_g rfl rfl rfl rfl rfl rfl rfl rfl rfl rfl rfl rn_21 (fun w hw => C_rCheckProgramme (h.sh hw) (hp.sh hw)) (GR_nil) ?_
    refine GT_st_g rfl rfl rfl rfl rfl rfl rfl (V_neq rfl rfl rfl) ?_
    refine GT_st rfl rfl rfl rfl (V_pick_f rfl rfl rfl) ?_
    refine GT_nil ?_
    first | refine GE_condNot rfl (fun q2 => ?_) (fun q2 => ?_) | refine GE_cond rfl (fun q2 => ?_) (fun q2 => ?_) | refine GE_condNotB rfl (fun q2 => ?_) (fun q2 => ?_) | refine GE_condB rfl (fun q2 => ?_) (fun q2 => ?_)
    · skip
      refine GE_seq ?_
      refine GE_slots (L' := []) trivial ?_
      refine GE_plain (.ld 0 [] (.st 1 .nil)) rfl ?_
      refine GT_call0 rfl rfl rfl rfl rfl rfl rfl rfl rn_16 (fun w hw => C_Works) (GR_nil) ?_
      refine GT_st rfl rfl rfl rfl (V_assign rfl rfl) ?_
      refine GT_nil ?_
      refine GE_ret Tryd.func9 rfl (fun w hw => ⟨?_, hw.nil⟩)
      rfl
    · have hP := gErr_zero.1 q2; have hmo := hP.most
      refine GE_skip ?_
      refine GE_seq ?_
      refine GE_slots (L' := [(0, _), (1, _), (2, _)]) ⟨rfl, rfl, rfl, trivial⟩ ?_
      refine GE_plain (.st 0 (.st 1 (.ld 2 [] (.st 3 (.st 4 (.st 5 (.st 6 (.st 7 .nil)))))))) rfl ?_
      refine GT_st rfl rfl rfl rfl (V_move rfl rfl) ?_
      refine GT_st rfl rfl rfl rfl (V_move rfl rfl) ?_
      refine GT_call0 rfl rfl rfl rfl rfl rfl rfl rfl rn_34 (fun w hw => C_HeadOk (h.sh hw) (hp.sh hw) rfl hP) (GR_nil) ?_
      refine GT_st rfl rfl rfl rfl (V_move rfl rfl) ?_
      refine GT_st rfl rfl rfl rfl (V_extract rfl rfl rfl) ?_
      refine GT_st rfl rfl rfl rfl (V_extract rfl rfl rfl) ?_
      refine GT_st rfl rfl rfl rfl (V_assign rfl rfl) ?_
      refine GT_st rfl rfl rfl rfl (V_assign rfl rfl) ?_
      refine GT_nil ?_
      refine GE_seq ?_
      refine GE_seq ?_
      refine GE_slots (L' := [(0, _), (1, _), (2, _), (7, _), (8, _)]) ⟨rfl, rfl, rfl, rfl, rfl, trivial⟩ ?_
      refine GE_plain (.st 0 (.st 1 (.st 2 (.st 3 (.st 4 (.st 5 (.st 6 (.st 7 (.st 8 (.st 9 .nil)))))))))) rfl ?_
      refine GT_st rfl rfl rfl rfl (V_move rfl rfl) ?_
      refine GT_st rfl rfl rfl rfl (V_isF (V_neq rfl rfl rfl) (fun q => q rfl)) ?_
      refine GT_st rfl rfl rfl rfl (V_move rfl rfl) ?_
      refine GT_st_g rfl rfl rfl rfl rfl rfl rfl (V_move rfl rfl) ?_
      refine GT_st_g rfl rfl rfl rfl rfl rfl rfl (V_isF (V_lss rfl rfl rfl) (by omega)) ?_
      refine GT_st rfl rfl rfl rfl (V_pick_f rfl rfl rfl) ?_
      refine GT_st rfl rfl rfl rfl (V_move rfl rfl) ?_
      refine GT_st_g rfl rfl rfl rfl rfl rfl rfl (V_move rfl rfl) ?_
      refine GT_st_g rfl rfl rfl rfl rfl rfl rfl (V_isF (V_gtr rfl rfl rfl) (by omega)) ?_
      refine GT_st rfl rfl rfl rfl (V_pick_f rfl rfl rfl) ?_
      refine GT_nil ?_
      refine GE_cond_f rfl ?_
      refine GE_skip ?_
      refine GE_seq ?_
      refine GE_slots (L' := [(0, _), (1, _), (2, _), (7, _)]) ⟨rfl, rfl, rfl, rfl, trivial⟩ ?_
      refine GE_plain (.st 0 .nil) rfl ?_
      refine GT_st rfl rfl rfl rfl (V_assign rfl rfl) ?_
      refine GT_nil ?_
      refine GE_seq ?_
      refine GE_seq ?_
      refine GE_plain (.st 0 .nil) rfl ?_
      refine GT_st rfl rfl rfl rfl (V_assign rfl rfl) ?_
      refine GT_nil ?_
      refine GE_block ?_
      refine GE_to (GE_loop (ι := Nat × Bool) (fun x => p.length - x.1) (fun x => [(0, .slice A l.length c), (1, .slice A2 p.length c2), (2, .int .u16 less), (7, I (hd l p)), (9, .bool x.2), (10, I x.1)]) (fun x => []) (fun x => x.1 ≤ p.length ∧ (x.2 = true → ∀ i, i < x.1 → 0 ≤ (pt p i).gap)) ?_ (0, true) ?_) ⟨rfl, rfl, rfl, rfl, rfl, rfl, trivial⟩ HS.nil
      · rintro ⟨k, al⟩ ⟨hk, hal⟩ ih; dsimp only at hk hal ih ⊢
        refine GE_seq ?_
        refine GE_seq ?_
        refine GE_plain (.st 0 (.st 1 (.st 2 (.st 3 .nil)))) rfl ?_
        refine GT_st rfl rfl rfl rfl (V_move rfl rfl) ?_
        refine GT_st rfl rfl rfl rfl (V_move rfl rfl) ?_
        refine GT_st rfl rfl rfl rfl (V_len rfl Tryd.underlying31 rfl) ?_
        refine GT_st rfl rfl rfl rfl (V_lss rfl rfl rfl) ?_
        refine GT_nil ?_
        first | refine GE_condNot rfl (fun q3 => ?_) (fun q3 => ?_) | refine GE_cond rfl (fun q3 => ?_) (fun q3 => ?_) | refine GE_condNotB rfl (fun q3 => ?_) (fun q3 => ?_) | refine GE_condB rfl (fun q3 => ?_) (fun q3 => ?_)
        · have hkl : k < p.length := (by omega)
          refine GE_skip ?_
          refine GE_seq ?_
          refine GE_block ?_
          refine GE_slots (L' := [(0, _), (1, _), (2, _), (7, _), (9, _), (10, _)]) ⟨rfl, rfl, rfl, rfl, rfl, rfl, trivial⟩ ?_
          refine GE_plain (.st 0 (.st 1 (.st 2 (.st 3 (.st 4 (.st 5 (.st 6 (.st 7 (.st 8 (.ld 9 [] .nil)))))))))) rfl ?_
          refine GT_st rfl rfl rfl rfl (V_move rfl rfl) ?_
          refine GT_st rfl rfl rfl rfl (V_move rfl rfl) ?_
          first | refine GT_splitNot (d := 49) rfl (fun q4 => ?_) (fun q4 => ?_) | refine GT_split (d := 49) rfl (fun q4 => ?_) (fun q4 => ?_) | refine GT_splitNotB (d := 49) rfl (fun q4 => ?_) (fun q4 => ?_) | refine GT_splitB (d := 49) rfl (fun q4 => ?_) (fun q4 => ?_)
          · skip
            refine GT_st_g rfl rfl rfl rfl rfl rfl rfl (V_move rfl rfl) ?_
            refine GT_st_g rfl rfl rfl rfl rfl rfl rfl (V_move rfl rfl) ?_
            refine GT_st_g rfl rfl rfl rfl rfl rfl rfl (V_index rfl rfl rfl Tryd.underlying31 sz_30 (k := k) rfl hkl (hp.isSome hkl)) ?_
            first | refine GT_st_g rfl rfl rfl rfl rfl rfl rfl (V_field rfl rfl fo_30_3) ?_ | refine GT_st_g rfl rfl rfl rfl rfl rfl rfl (V_fieldA rfl rfl fo_30_3) ?_
            refine GT_st_g rfl rfl rfl rfl rfl rfl rfl (V_load rfl rfl ag_3 (hp.at1 noM hkl (show _ = some (I (pt p k).gap) from rfl))) ?_
            refine GT_st_g rfl rfl rfl rfl rfl rfl rfl (V_geq rfl rfl rfl) ?_
            refine GT_st rfl rfl rfl rfl (V_pick_t rfl rfl rfl) ?_
            refine GT_ldv rfl rfl rfl rfl rfl (V_assign rfl rfl) (GR_nil) ?_
            refine GT_nil ?_
            refine GE_inBlock ?_
            refine GE_plain (.st 0 (.st 1 (.ld 2 [] .nil))) rfl ?_
            refine GT_st rfl rfl rfl rfl (V_move rfl rfl) ?_
            refine GT_st rfl rfl rfl rfl (V_add rfl rfl rfl (wrap_i64 (by omega))) ?_
            refine GT_ldv rfl rfl rfl rfl rfl (V_assign rfl rfl) (GR_nil) ?_
            refine GT_nil ?_
            first
              | exact GE_to (ih (k + 1, decide (0 ≤ (pt p k).gap)) ⟨by dsimp only; omega, fun h i hi => by dsimp only at h hi; rcases Nat.lt_or_ge i k with r | r; exact hal q4 i r; rw [show i = k by omega]; exact of_decide_eq_true h⟩ (by dsimp only; omega)) ⟨rfl, rfl, rfl, rfl, rfl, rfl, trivial⟩ HS.nil
              | exact GE_to (ih (k + 1, false) ⟨by dsimp only; omega, fun h => (by cases h)⟩ (by dsimp only; omega)) ⟨rfl, rfl, rfl, rfl, rfl, rfl, trivial⟩ HS.nil
          · skip
            refine GT_skip rfl rfl rfl rfl rfl (by decide) rfl rfl ?_
            refine GT_skip rfl rfl rfl rfl rfl (by decide) rfl rfl ?_
            refine GT_skip rfl rfl rfl rfl rfl (by decide) rfl rfl ?_
            refine GT_skip rfl rfl rfl rfl rfl (by decide) rfl rfl ?_
            refine GT_skip rfl rfl rfl rfl rfl (by decide) rfl rfl ?_
            refine GT_skip rfl rfl rfl rfl rfl (by decide) rfl rfl ?_
            refine GT_st rfl rfl rfl rfl (V_pick_f rfl rfl rfl) ?_
            refine GT_ldv rfl rfl rfl rfl rfl (V_assign rfl rfl) (GR_nil) ?_
            refine GT_nil ?_
            refine GE_inBlock ?_
            refine GE_plain (.st 0 (.st 1 (.ld 2 [] .nil))) rfl ?_
            refine GT_st rfl rfl rfl rfl (V_move rfl rfl) ?_
            refine GT_st rfl rfl rfl rfl (V_add rfl rfl rfl (wrap_i64 (by omega))) ?_
            refine GT_ldv rfl rfl rfl rfl rfl (V_assign rfl rfl) (GR_nil) ?_
            refine GT_nil ?_
            first
              | exact GE_to (ih (k + 1, decide (0 ≤ (pt p k).gap)) ⟨by dsimp only; omega, fun h i hi => by dsimp only at h hi; rcases Nat.lt_or_ge i k with r | r; exact hal q4 i r; rw [show i = k by omega]; exact of_decide_eq_true h⟩ (by dsimp only; omega)) ⟨rfl, rfl, rfl, rfl, rfl, rfl, trivial⟩ HS.nil
              | exact GE_to (ih (k + 1, false) ⟨by dsimp only; omega, fun h => (by cases h)⟩ (by dsimp only; omega)) ⟨rfl, rfl, rfl, rfl, rfl, rfl, trivial⟩ HS.nil
        · have hala : al = true → ∀ i, i < p.length → 0 ≤ (pt p i).gap := (fun e i hi => hal e i (by omega))
          refine GE_exit rfl ?_
          refine GE_seq ?_
          refine GE_seq ?_
          refine GE_slots (L' := [(0, _), (1, _), (2, _), (7, _), (9, _)]) ⟨rfl, rfl, rfl, rfl, rfl, trivial⟩ ?_
          refine GE_plain (.st 0 .nil) rfl ?_
          refine GT_st rfl rfl rfl rfl (V_assign rfl rfl) ?_
          refine GT_nil ?_
          refine GE_block ?_
          refine GE_to (GE_loop (ι := Nat) (fun n => 3 - n) (fun n => [(0, .slice A l.length c), (1, .slice A2 p.length c2), (2, .int .u16 less), (7, I (hd l p)), (9, .bool al), (11, I n)]) (fun n => []) (fun n => n ≤ 3) ?_ 0 ?_) ⟨rfl, rfl, rfl, rfl, rfl, rfl, trivial⟩ HS.nil
          · intro n hn ih2
            refine GE_seq ?_
            refine GE_seq ?_
            refine GE_plain (.st 0 (.st 1 .nil)) rfl ?_
            refine GT_st rfl rfl rfl rfl (V_move rfl rfl) ?_
            refine GT_st rfl rfl rfl rfl (V_lss rfl rfl rfl) ?_
            refine GT_nil ?_
            first | refine GE_condNot rfl (fun q5 => ?_) (fun q5 => ?_) | refine GE_cond rfl (fun q5 => ?_) (fun q5 => ?_) | refine GE_condNotB rfl (fun q5 => ?_) (fun q5 => ?_) | refine GE_condB rfl (fun q5 => ?_) (fun q5 => ?_)
            · have hn3 : n < 3 := (by omega)
              refine GE_skip ?_
              refine GE_seq ?_
              refine GE_block ?_
              refine GE_seq ?_
              refine GE_plain (.st 0 (.st 1 (.st 2 (.st 3 (.st 4 (.st 5 (.st 6 (.st 7 (.ld 8 [] (.st 9 (.st 10 (.st 11 (.st 12 .nil))))))))))))) rfl ?_
              refine GT_st rfl rfl rfl rfl (V_move rfl rfl) ?_
              refine GT_st rfl rfl rfl rfl (V_move rfl rfl) ?_
              refine GT_st rfl rfl rfl rfl (V_convII rfl rfl (by rw [Tryd.underlying38]; rfl) Tryd.underlying2 (wrap_i64 (by omega))) ?_
              refine GT_st rfl rfl rfl rfl (V_move rfl rfl) ?_
              refine GT_st rfl rfl rfl rfl (V_add rfl rfl rfl (wrap_i64 (by omega))) ?_
              refine GT_st rfl rfl rfl rfl (V_rem rfl rfl rfl (by omega)) ?_
              refine GT_st rfl rfl rfl rfl (V_move rfl rfl) ?_
              refine GT_st rfl rfl rfl rfl (V_add rfl rfl rfl (wrap_i64 (by omega))) ?_
              refine GT_buildSlice (z := [_, _, _]) rfl rfl rfl rfl rfl Tryd.underlying60 zc_2 sz_2 (by decide) rfl rfl (fun _ => GR_nil) (fun b69 => ?_)
              have hO3 : Own 1 2 eI [hd l p, less.tmod (hd l p + 1), hd l p + 1] (.slice (some ⟨b69, 0, none⟩) 3 3) [(b69, blk [I (hd l p), I (less.tmod (hd l p + 1)), I (hd l p + 1)] 2)] := Own.lit rfl rfl (by decide)
              refine GT_st rfl rfl rfl rfl (V_move rfl rfl) ?_
              refine GT_st rfl rfl rfl rfl (V_index rfl rfl rfl Tryd.underlying60 sz_2 (k := n) rfl hn3 rfl) ?_
              refine GT_st rfl rfl rfl rfl (V_load rfl rfl ag_2 (CellAt.own0 (k := n) (u := I (gF (hd l p) (less.tmod (hd l p + 1)) n)) hO3 eI_len hn3 (by rcases (show n = 0 ∨ n = 1 ∨ n = 2 by omega) with rfl | rfl | rfl <;> rfl))) ?_
              refine GT_st rfl rfl rfl rfl (V_assign rfl rfl) ?_
              refine GT_nil ?_
              refine GE_seq ?_
              refine GE_slots (L' := [(0, _), (1, _), (2, _), (7, _), (9, _), (11, _), (12, _)]) ⟨rfl, rfl, rfl, rfl, rfl, rfl, rfl, trivial⟩ ?_
              have hgb : 0 ≤ gF (hd l p) (less.tmod (hd l p + 1)) n ∧ gF (hd l p) (less.tmod (hd l p + 1)) n ≤ 4001 ∧ (n < 2 → gF (hd l p) (less.tmod (hd l p + 1)) n ≤ hd l p) ∧ (n = 2 → gF (hd l p) (less.tmod (hd l p + 1)) n = hd l p + 1) := (by unfold gF; rcases (show n = 0 ∨ n = 1 ∨ n = 2 by omega) with rfl | rfl | rfl <;> simp <;> omega); generalize gF (hd l p) (less.tmod (hd l p + 1)) n = g at *
              refine GE_plain (.ld 0 [] (.st 1 (.ld 2 [] (.st 3 .nil)))) rfl ?_
              refine GT_buildSlice (z := []) rfl rfl rfl rfl rfl Tryd.underlying31 zc_30 sz_30 (by decide) rfl rfl (fun _ => GR_nil) (fun b73 => ?_)
              refine GT_st rfl rfl rfl rfl (V_move rfl rfl) ?_
              refine GT_append (enc := ePrt) (l := []) (I := [(b73, blk [] 30)]) (m := p) rfl rfl rfl rfl rfl rfl rfl (Own.lit (l := []) rfl rfl (by decide)) (fun w m => hp.sh m) Tryd.underlying31 zc_30 sz_30 ⟨rfl, by decide⟩ by_30 ⟨by simp only [List.length_nil]; omega, by simp only [List.length_nil]; omega⟩ ePrt_len ePrt_one (fun _ _ _ _ => GR_nil) (fun A4 c4 I4 hO4 => ?_)
              rw [List.nil_append] at hO4 ⊢
              refine GT_st rfl rfl rfl rfl (V_assign rfl rfl) ?_
              refine GT_nil ?_
              refine GE_seq ?_
              refine GE_plain (.st 0 .nil) rfl ?_
              refine GT_st rfl rfl rfl rfl (V_assign rfl rfl) ?_
              refine GT_nil ?_
              refine GE_seq ?_
              refine GE_seq ?_
              refine GE_plain (.st 0 .nil) rfl ?_
              refine GT_st rfl rfl rfl rfl (V_assign rfl rfl) ?_
              refine GT_nil ?_
              refine GE_block ?_
              refine GE_to (GE_loop (ι := Nat × Bool × Items) (fun x => p.length - x.1) (fun x => [(0, .slice A l.length c), (1, .slice A2 p.length c2), (2, .int .u16 less), (7, I (hd l p)), (9, .bool al), (11, I n), (12, I g), (13, .slice A4 p.length c4), (14, .bool x.2.1), (15, I x.1)]) (fun x => x.2.2) (fun x => x.1 ≤ p.length ∧ Own 7 30 ePrt (pQ p g x.1) (.slice A4 p.length c4) x.2.2 ∧ (x.2.1 = true → ∀ i, i < x.1 → (levd (pt p i) g).lev ≤ 4000)) ?_ (0, true, I4) ?_) ⟨rfl, rfl, rfl, rfl, rfl, rfl, rfl, rfl, rfl, rfl, trivial⟩ HS.last
              · rintro ⟨i, ft, I5⟩ ⟨hi, hO5, hft⟩ ih3; dsimp only at hi hO5 hft ih3 ⊢
                refine GE_seq ?_
                refine GE_seq ?_
                refine GE_plain (.st 0 (.st 1 (.st 2 (.st 3 .nil)))) rfl ?_
                refine GT_st rfl rfl rfl rfl (V_move rfl rfl) ?_
                refine GT_st rfl rfl rfl rfl (V_move rfl rfl) ?_
                refine GT_st rfl rfl rfl rfl (V_len rfl Tryd.underlying31 rfl) ?_
                refine GT_st rfl rfl rfl rfl (V_lss rfl rfl rfl) ?_
                refine GT_nil ?_
                first | refine GE_condNot rfl (fun q6 => ?_) (fun q6 => ?_) | refine GE_cond rfl (fun q6 => ?_) (fun q6 => ?_) | refine GE_condNotB rfl (fun q6 => ?_) (fun q6 => ?_) | refine GE_condB rfl (fun q6 => ?_) (fun q6 => ?_)
                · have hil : i < p.length := (by omega); have hql := pQ_len (p := p) (g := g) (i := i) (by omega); have hqg := pQ_get (p := p) (g := g) hil; have hlv := (hP.each i hil).lev; have hmu := mul_bd hlv.1 hlv.2 hgb.1 hgb.2.1; have hdv : ((pt p i).lev * g).tdiv 1000 = (pt p i).lev * g / 1000 := Int.tdiv_eq_ediv_of_nonneg hmu.1
                  refine GE_skip ?_
                  refine GE_seq ?_
                  refine GE_block ?_
                  refine GE_seq ?_
                  refine GE_slots (L' := [(0, _), (1, _), (2, _), (7, _), (9, _), (11, _), (12, _), (13, _), (14, _), (15, _)]) ⟨rfl, rfl, rfl, rfl, rfl, rfl, rfl, rfl, rfl, rfl, trivial⟩ ?_
                  refine GE_plain (.st 0 (.st 1 (.st 2 (.st 3 (.st 4 (.st 5 (.st 6 (.st 7 (.st 8 (.st 9 (.st 10 (.st 11 (.ld 12 [] .nil))))))))))))) rfl ?_
                  refine GT_st rfl rfl rfl rfl (V_move rfl rfl) ?_
                  refine GT_st rfl rfl rfl rfl (V_move rfl rfl) ?_
                  refine GT_st rfl rfl rfl rfl (V_move rfl rfl) ?_
                  refine GT_st rfl rfl rfl rfl (V_move rfl rfl) ?_
                  refine GT_st rfl rfl rfl rfl (V_index rfl rfl rfl Tryd.underlying31 sz_30 (k := i) rfl hil (hO5.isSome (k := i) (by omega))) ?_
                  first | refine GT_st rfl rfl rfl rfl (V_field rfl rfl fo_30_6) ?_ | refine GT_st rfl rfl rfl rfl (V_fieldA rfl rfl fo_30_6) ?_
                  refine GT_st rfl rfl rfl rfl (V_load rfl rfl ag_2 (CellAt.own (j := 6) hO5 ePrt_len (by omega) (by rw [hqg]; exact (show _ = some (I (pt p i).lev) from rfl)))) ?_
                  refine GT_st rfl rfl rfl rfl (V_move rfl rfl) ?_
                  refine GT_st rfl rfl rfl rfl (V_mul rfl rfl rfl (wrap_i64 (by omega))) ?_
                  refine GT_st rfl rfl rfl rfl (V_quo rfl rfl rfl (by omega) (wrap_i64 (by omega))) ?_
                  refine GT_st rfl rfl rfl rfl (V_index rfl rfl rfl Tryd.underlying31 sz_30 (k := i) rfl hil (hO5.isSome (k := i) (by omega))) ?_
                  first | refine GT_st rfl rfl rfl rfl (V_field rfl rfl fo_30_6) ?_ | refine GT_st rfl rfl rfl rfl (V_fieldA rfl rfl fo_30_6) ?_
                  refine GT_storeF (enc := ePrt) (q := i) (j := 6) (xx := levd (pt p i) g) rfl rfl rfl rfl rfl rfl rfl sz_2 hO5 ePrt_len rfl (by omega) (by decide) (by rw [hqg]; rfl) (fun _ _ => GR_nil) (fun I6 hO6 => ?_)
                  refine GT_nil ?_
                  refine GE_slots (L' := [(0, _), (1, _), (2, _), (7, _), (9, _), (11, _), (12, _), (13, _), (14, _), (15, _)]) ⟨rfl, rfl, rfl, rfl, rfl, rfl, rfl, rfl, rfl, rfl, trivial⟩ ?_
                  rw [pQ_set hil] at hO6; have hql6 := pQ_len (p := p) (g := g) (i := i + 1) (by omega); have hqg6 : (pQ p g (i + 1)).getD i default = levd (pt p i) g := (by rw [← pQ_set hil]; simp [List.getD, show i < (pQ p g i).length by omega])
                  refine GE_plain (.st 0 (.st 1 (.st 2 (.st 3 (.st 4 (.st 5 (.st 6 (.st 7 (.st 8 (.ld 9 [] .nil)))))))))) rfl ?_
                  refine GT_st rfl rfl rfl rfl (V_move rfl rfl) ?_
                  refine GT_st rfl rfl rfl rfl (V_move rfl rfl) ?_
                  first | refine GT_splitNot (d := 95) rfl (fun q7 => ?_) (fun q7 => ?_) | refine GT_split (d := 95) rfl (fun q7 => ?_) (fun q7 => ?_) | refine GT_splitNotB (d := 95) rfl (fun q7 => ?_) (fun q7 => ?_) | refine GT_splitB (d := 95) rfl (fun q7 => ?_) (fun q7 => ?_)
                  · skip
                    refine GT_st_g rfl rfl rfl rfl rfl rfl rfl (V_move rfl rfl) ?_
                    refine GT_st_g rfl rfl rfl rfl rfl rfl rfl (V_move rfl rfl) ?_
                    refine GT_st_g rfl rfl rfl rfl rfl rfl rfl (V_index rfl rfl rfl Tryd.underlying31 sz_30 (k := i) rfl hil (hO6.isSome (k := i) (by omega))) ?_
                    first | refine GT_st_g rfl rfl rfl rfl rfl rfl rfl (V_field rfl rfl fo_30_6) ?_ | refine GT_st_g rfl rfl rfl rfl rfl rfl rfl (V_fieldA rfl rfl fo_30_6) ?_
                    refine GT_st_g rfl rfl rfl rfl rfl rfl rfl (V_load rfl rfl ag_2 (CellAt.own (j := 6) hO6 ePrt_len (by omega) (by rw [hqg6]; exact (show _ = some (I (levd (pt p i) g).lev) from rfl)))) ?_
                    refine GT_st_g rfl rfl rfl rfl rfl rfl rfl (V_leq rfl rfl rfl) ?_
                    refine GT_st rfl rfl rfl rfl (V_pick_t rfl rfl rfl) ?_
                    refine GT_ldv rfl rfl rfl rfl rfl (V_assign rfl rfl) (GR_nil) ?_
                    refine GT_nil ?_
                    refine GE_inBlock ?_
                    refine GE_plain (.st 0 (.st 1 (.ld 2 [] .nil))) rfl ?_
                    refine GT_st rfl rfl rfl rfl (V_move rfl rfl) ?_
                    refine GT_st rfl rfl rfl rfl (V_add rfl rfl rfl (wrap_i64 (by omega))) ?_
                    refine GT_ldv rfl rfl rfl rfl rfl (V_assign rfl rfl) (GR_nil) ?_
                    refine GT_nil ?_
                    first
                      | exact GE_to (ih3 (i + 1, decide ((levd (pt p i) g).lev ≤ 4000), I6) ⟨by dsimp only; omega, hO6, fun h j hj => by dsimp only at h hj; rcases Nat.lt_or_ge j i with r | r; exact hft q7 j r; rw [show j = i by omega]; exact of_decide_eq_true h⟩ (by dsimp only; omega)) ⟨rfl, rfl, rfl, rfl, rfl, rfl, rfl, rfl, rfl, rfl, trivial⟩ HS.last
                      | exact GE_to (ih3 (i + 1, false, I6) ⟨by dsimp only; omega, hO6, fun h => (by cases h)⟩ (by dsimp only; omega)) ⟨rfl, rfl, rfl, rfl, rfl, rfl, rfl, rfl, rfl, rfl, trivial⟩ HS.last
                  · skip
                    refine GT_skip rfl rfl rfl rfl rfl (by decide) rfl rfl ?_
                    refine GT_skip rfl rfl rfl rfl rfl (by decide) rfl rfl ?_
                    refine GT_skip rfl rfl rfl rfl rfl (by decide) rfl rfl ?_
                    refine GT_skip rfl rfl rfl rfl rfl (by decide) rfl rfl ?_
                    refine GT_skip rfl rfl rfl rfl rfl (by decide) rfl rfl ?_
                    refine GT_skip rfl rfl rfl rfl rfl (by decide) rfl rfl ?_
                    refine GT_st rfl rfl rfl rfl (V_pick_f rfl rfl rfl) ?_
                    refine GT_ldv rfl rfl rfl rfl rfl (V_assign rfl rfl) (GR_nil) ?_
                    refine GT_nil ?_
                    refine GE_inBlock ?_
                    refine GE_plain (.st 0 (.st 1 (.ld 2 [] .nil))) rfl ?_
                    refine GT_st rfl rfl rfl rfl (V_move rfl rfl) ?_
                    refine GT_st rfl rfl rfl rfl (V_add rfl rfl rfl (wrap_i64 (by omega))) ?_
                    refine GT_ldv rfl rfl rfl rfl rfl (V_assign rfl rfl) (GR_nil) ?_
                    refine GT_nil ?_
                    first
                      | exact GE_to (ih3 (i + 1, decide ((levd (pt p i) g).lev ≤ 4000), I6) ⟨by dsimp only; omega, hO6, fun h j hj => by dsimp only at h hj; rcases Nat.lt_or_ge j i with r | r; exact hft q7 j r; rw [show j = i by omega]; exact of_decide_eq_true h⟩ (by dsimp only; omega)) ⟨rfl, rfl, rfl, rfl, rfl, rfl, rfl, rfl, rfl, rfl, trivial⟩ HS.last
                      | exact GE_to (ih3 (i + 1, false, I6) ⟨by dsimp only; omega, hO6, fun h => (by cases h)⟩ (by dsimp only; omega)) ⟨rfl, rfl, rfl, rfl, rfl, rfl, rfl, rfl, rfl, rfl, trivial⟩ HS.last
                · obtain rfl : i = p.length := (by omega); rw [pQ_all] at hO5
                  refine GE_exit rfl ?_
                  refine GE_seq ?_
                  refine GE_seq ?_
                  refine GE_slots (L' := [(0, _), (1, _), (2, _), (7, _), (9, _), (11, _), (13, _), (14, _)]) ⟨rfl, rfl, rfl, rfl, rfl, rfl, rfl, rfl, trivial⟩ ?_
                  refine GE_plain (.st 0 (.st 1 .nil)) rfl ?_
                  refine GT_st rfl rfl rfl rfl (V_move rfl rfl) ?_
                  first | refine GT_st rfl rfl rfl rfl (V_not rfl rfl) ?_ | refine GT_st rfl rfl rfl rfl (V_notB rfl rfl) ?_
                  refine GT_nil ?_
                  first | refine GE_condNot rfl (fun q8 => ?_) (fun q8 => ?_) | refine GE_cond rfl (fun q8 => ?_) (fun q8 => ?_) | refine GE_condNotB rfl (fun q8 => ?_) (fun q8 => ?_) | refine GE_condB rfl (fun q8 => ?_) (fun q8 => ?_)
                  · skip
                    refine GE_exit rfl ?_
                    refine GE_slots (L' := [(0, _), (1, _), (2, _), (7, _), (9, _), (11, _)]) ⟨rfl, rfl, rfl, rfl, rfl, rfl, trivial⟩ ?_
                    refine GE_plain (.st 0 (.st 1 (.ld 2 [] .nil))) rfl ?_
                    refine GT_st rfl rfl rfl rfl (V_move rfl rfl) ?_
                    refine GT_st rfl rfl rfl rfl (V_add rfl rfl rfl (wrap_i64 (by omega))) ?_
                    refine GT_ldv rfl rfl rfl rfl rfl (V_assign rfl rfl) (GR_nil) ?_
                    refine GT_nil ?_
                    exact GE_to (ih2 (n + 1) (by omega) (by omega)) ⟨rfl, rfl, rfl, rfl, rfl, rfl, trivial⟩ HS.nil
                  · have hPL := pL_ok hP hgb.1 (hft q8); have hGL := gErr_zero.2 hPL
                    refine GE_skip ?_
                    refine GE_seq ?_
                    refine GE_plain (.st 0 (.st 1 (.ld 2 [] (.st 3 (.st 4 (.st 5 (.st 6 .nil))))))) rfl ?_
                    refine GT_st rfl rfl rfl rfl (V_move rfl rfl) ?_
                    refine GT_st rfl rfl rfl rfl (V_move rfl rfl) ?_
                    refine GT_call rfl rfl rfl rfl rfl rfl rfl rfl rn_17 (fun w hw => C_RendErr (p := pL p g) (h.sh hw) (hO5.rdH ePrt_len hw) pL_len.symm) (fun _ _ => GR_nil) (fun y _ => ?_)
                    refine GT_st rfl rfl rfl rfl (V_move rfl rfl) ?_
                    refine GT_st rfl rfl rfl rfl (V_extract rfl rfl rfl) ?_
                    refine GT_st rfl rfl rfl rfl (V_extract rfl rfl rfl) ?_
                    refine GT_st rfl rfl rfl rfl (V_assign rfl rfl) ?_
                    refine GT_nil ?_
                    refine GE_seq ?_
                    refine GE_slots (L' := [(0, _), (1, _), (2, _), (7, _), (8, _), (9, _), (11, _)]) ⟨rfl, rfl, rfl, rfl, rfl, rfl, rfl, trivial⟩ ?_
                    refine GE_plain (.st 0 (.st 1 (.st 2 (.st 3 (.st 4 (.st 5 (.st 6 (.st 7 (.st 8 (.st 9 (.st 10 (.st 11 (.st 12 (.st 13 (.st 14 (.st 15 (.st 16 (.st 17 (.st 18 (.st 19 (.st 20 .nil))))))))))))))))))))) rfl ?_
                    refine GT_st rfl rfl rfl rfl (V_move rfl rfl) ?_
                    refine GT_st rfl rfl rfl rfl (V_lss rfl rfl rfl) ?_
                    refine GT_st rfl rfl rfl rfl (V_move rfl rfl) ?_
                    first | refine GT_splitNot (d := 113) rfl (fun q9 => ?_) (fun q9 => ?_) | refine GT_split (d := 113) rfl (fun q9 => ?_) (fun q9 => ?_) | refine GT_splitNotB (d := 113) rfl (fun q9 => ?_) (fun q9 => ?_) | refine GT_splitB (d := 113) rfl (fun q9 => ?_) (fun q9 => ?_)
                    · have hok : rErr l (pL p g) = 0 := (by rw [rErr, if_pos hGL, if_pos (pL_quiet hP ((hd_iff hP hgb.1 (by omega)).2 (by omega)))])
                      refine GT_st_g rfl rfl rfl rfl rfl rfl rfl (V_move rfl rfl) ?_
                      refine GT_st_g rfl rfl rfl rfl rfl rfl rfl (V_isF (V_neq rfl rfl rfl) (fun q => q hok)) ?_
                      refine GT_st rfl rfl rfl rfl (V_pick_t rfl rfl rfl) ?_
                      refine GT_st rfl rfl rfl rfl (V_move rfl rfl) ?_
                      refine GT_st_g rfl rfl rfl rfl rfl rfl rfl (V_move rfl rfl) ?_
                      refine GT_st_g rfl rfl rfl rfl rfl rfl rfl (V_eql rfl rfl rfl) ?_
                      refine GT_st_g rfl rfl rfl rfl rfl rfl rfl (V_move rfl rfl) ?_
                      first | refine GT_splitNot (d := 120) rfl (fun q10 => ?_) (fun q10 => ?_) | refine GT_split (d := 120) rfl (fun q10 => ?_) (fun q10 => ?_) | refine GT_splitNotB (d := 120) rfl (fun q10 => ?_) (fun q10 => ?_) | refine GT_splitB (d := 120) rfl (fun q10 => ?_) (fun q10 => ?_)
                      · skip
                        refine GT_st_g rfl rfl rfl rfl rfl rfl rfl (V_move rfl rfl) ?_
                        refine GT_st_g rfl rfl rfl rfl rfl rfl rfl (V_pick_t rfl rfl rfl) ?_
                        refine GT_st_g rfl rfl rfl rfl rfl rfl rfl (V_move rfl rfl) ?_
                        first | refine GT_splitNot (d := 123) rfl (fun q11 => ?_) (fun q11 => ?_) | refine GT_split (d := 123) rfl (fun q11 => ?_) (fun q11 => ?_) | refine GT_splitNotB (d := 123) rfl (fun q11 => ?_) (fun q11 => ?_) | refine GT_splitB (d := 123) rfl (fun q11 => ?_) (fun q11 => ?_)
                        · skip
                          refine GT_st_g rfl rfl rfl rfl rfl rfl rfl (V_move rfl rfl) ?_
                          refine GT_st_g rfl rfl rfl rfl rfl rfl rfl (V_lss rfl rfl rfl) ?_
                          refine GT_st_g rfl rfl rfl rfl rfl rfl rfl (V_pick_t rfl rfl rfl) ?_
                          refine GT_st_g rfl rfl rfl rfl rfl rfl rfl (V_move rfl rfl) ?_
                          first | refine GT_splitNot (d := 127) rfl (fun q12 => ?_) (fun q12 => ?_) | refine GT_split (d := 127) rfl (fun q12 => ?_) (fun q12 => ?_) | refine GT_splitNotB (d := 127) rfl (fun q12 => ?_) (fun q12 => ?_) | refine GT_splitB (d := 127) rfl (fun q12 => ?_) (fun q12 => ?_)
                          · have hov : rErr l (pL p g) = 4 := (by rw [rErr, if_pos hGL, if_neg (pL_loud hP (hala q11) (by rw [Bool.eq_false_iff]; intro e; have := (hd_iff hP hgb.1 (by omega)).1 e; omega))])
                            refine GT_st_g rfl rfl rfl rfl rfl rfl rfl (V_move rfl rfl) ?_
                            refine GT_st_g rfl rfl rfl rfl rfl rfl rfl (V_isF (V_neq rfl rfl rfl) (fun q => q hov)) ?_
                            refine GT_st_g rfl rfl rfl rfl rfl rfl rfl (V_pick_t rfl rfl rfl) ?_
                            refine GT_st rfl rfl rfl rfl (V_pick_f rfl rfl rfl) ?_
                            refine GT_nil ?_
                            refine GE_cond_f rfl ?_
                            refine GE_skip ?_
                            refine GE_inBlock ?_
                            refine GE_slots (L' := [(0, _), (1, _), (2, _), (7, _), (9, _), (11, _), (114, _), (115, _), (118, _), (119, _), (120, _), (121, _), (122, _), (123, _), (124, _), (125, _), (126, _), (127, _), (128, _), (129, _), (130, _)]) ⟨rfl, rfl, rfl, rfl, rfl, rfl, rfl, rfl, rfl, rfl, rfl, rfl, rfl, rfl, rfl, rfl, rfl, rfl, rfl, rfl, rfl, trivial⟩ ?_
                            refine GE_plain (.st 0 (.st 1 (.ld 2 [] .nil))) rfl ?_
                            refine GT_st rfl rfl rfl rfl (V_move rfl rfl) ?_
                            refine GT_st rfl rfl rfl rfl (V_add rfl rfl rfl (wrap_i64 (by omega))) ?_
                            refine GT_ldv rfl rfl rfl rfl rfl (V_assign rfl rfl) (GR_nil) ?_
                            refine GT_nil ?_
                            exact GE_to (ih2 (n + 1) (by omega) (by omega)) ⟨rfl, rfl, rfl, rfl, rfl, rfl, trivial⟩ HS.nil
                          · skip
                            refine GT_skip rfl rfl rfl rfl rfl (by decide) rfl rfl ?_
                            refine GT_skip rfl rfl rfl rfl rfl (by decide) rfl rfl ?_
                            refine GT_st_g rfl rfl rfl rfl rfl rfl rfl (V_pick_f rfl rfl rfl) ?_
                            refine GT_st rfl rfl rfl rfl (V_pick_f rfl rfl rfl) ?_
                            refine GT_nil ?_
                            refine GE_cond_f rfl ?_
                            refine GE_skip ?_
                            refine GE_inBlock ?_
                            refine GE_slots (L' := [(0, _), (1, _), (2, _), (7, _), (9, _), (11, _), (114, _), (115, _), (118, _), (119, _), (120, _), (121, _), (122, _), (123, _), (124, _), (125, _), (126, _), (127, _), (128, _), (129, _), (130, _)]) ⟨rfl, rfl, rfl, rfl, rfl, rfl, rfl, rfl, rfl, rfl, rfl, rfl, rfl, rfl, rfl, rfl, rfl, rfl, rfl, rfl, rfl, trivial⟩ ?_
                            refine GE_plain (.st 0 (.st 1 (.ld 2 [] .nil))) rfl ?_
                            refine GT_st rfl rfl rfl rfl (V_move rfl rfl) ?_
                            refine GT_st rfl rfl rfl rfl (V_add rfl rfl rfl (wrap_i64 (by omega))) ?_
                            refine GT_ldv rfl rfl rfl rfl rfl (V_assign rfl rfl) (GR_nil) ?_
                            refine GT_nil ?_
                            exact GE_to (ih2 (n + 1) (by omega) (by omega)) ⟨rfl, rfl, rfl, rfl, rfl, rfl, trivial⟩ HS.nil
                        · skip
                          refine GT_skip rfl rfl rfl rfl rfl (by decide) rfl rfl ?_
                          refine GT_skip rfl rfl rfl rfl rfl (by decide) rfl rfl ?_
                          refine GT_st_g rfl rfl rfl rfl rfl rfl rfl (V_pick_f rfl rfl rfl) ?_
                          refine GT_st_g rfl rfl rfl rfl rfl rfl rfl (V_move rfl rfl) ?_
                          refine GT_skip rfl rfl rfl rfl rfl (by decide) rfl rfl ?_
                          refine GT_skip rfl rfl rfl rfl rfl (by decide) rfl rfl ?_
                          refine GT_st_g rfl rfl rfl rfl rfl rfl rfl (V_pick_f rfl rfl rfl) ?_
                          refine GT_st rfl rfl rfl rfl (V_pick_f rfl rfl rfl) ?_
                          refine GT_nil ?_
                          refine GE_cond_f rfl ?_
                          refine GE_skip ?_
                          refine GE_inBlock ?_
                          refine GE_slots (L' := [(0, _), (1, _), (2, _), (7, _), (9, _), (11, _), (114, _), (115, _), (118, _), (119, _), (120, _), (121, _), (122, _), (123, _), (124, _), (125, _), (126, _), (127, _), (128, _), (129, _), (130, _)]) ⟨rfl, rfl, rfl, rfl, rfl, rfl, rfl, rfl, rfl, rfl, rfl, rfl, rfl, rfl, rfl, rfl, rfl, rfl, rfl, rfl, rfl, trivial⟩ ?_
                          refine GE_plain (.st 0 (.st 1 (.ld 2 [] .nil))) rfl ?_
                          refine GT_st rfl rfl rfl rfl (V_move rfl rfl) ?_
                          refine GT_st rfl rfl rfl rfl (V_add rfl rfl rfl (wrap_i64 (by omega))) ?_
                          refine GT_ldv rfl rfl rfl rfl rfl (V_assign rfl rfl) (GR_nil) ?_
                          refine GT_nil ?_
                          exact GE_to (ih2 (n + 1) (by omega) (by omega)) ⟨rfl, rfl, rfl, rfl, rfl, rfl, trivial⟩ HS.nil
                      · skip
                        refine GT_skip rfl rfl rfl rfl rfl (by decide) rfl rfl ?_
                        refine GT_st_g rfl rfl rfl rfl rfl rfl rfl (V_pick_f rfl rfl rfl) ?_
                        refine GT_st_g rfl rfl rfl rfl rfl rfl rfl (V_move rfl rfl) ?_
                        refine GT_skip rfl rfl rfl rfl rfl (by decide) rfl rfl ?_
                        refine GT_skip rfl rfl rfl rfl rfl (by decide) rfl rfl ?_
                        refine GT_st_g rfl rfl rfl rfl rfl rfl rfl (V_pick_f rfl rfl rfl) ?_
                        refine GT_st_g rfl rfl rfl rfl rfl rfl rfl (V_move rfl rfl) ?_
                        refine GT_skip rfl rfl rfl rfl rfl (by decide) rfl rfl ?_
                        refine GT_skip rfl rfl rfl rfl rfl (by decide) rfl rfl ?_
                        refine GT_st_g rfl rfl rfl rfl rfl rfl rfl (V_pick_f rfl rfl rfl) ?_
                        refine GT_st rfl rfl rfl rfl (V_pick_f rfl rfl rfl) ?_
                        refine GT_nil ?_
                        refine GE_cond_f rfl ?_
                        refine GE_skip ?_
                        refine GE_inBlock ?_
                        refine GE_slots (L' := [(0, _), (1, _), (2, _), (7, _), (9, _), (11, _), (114, _), (115, _), (118, _), (119, _), (120, _), (121, _), (122, _), (123, _), (124, _), (125, _), (126, _), (127, _), (128, _), (129, _), (130, _)]) ⟨rfl, rfl, rfl, rfl, rfl, rfl, rfl, rfl, rfl, rfl, rfl, rfl, rfl, rfl, rfl, rfl, rfl, rfl, rfl, rfl, rfl, trivial⟩ ?_
                        refine GE_plain (.st 0 (.st 1 (.ld 2 [] .nil))) rfl ?_
                        refine GT_st rfl rfl rfl rfl (V_move rfl rfl) ?_
                        refine GT_st rfl rfl rfl rfl (V_add rfl rfl rfl (wrap_i64 (by omega))) ?_
                        refine GT_ldv rfl rfl rfl rfl rfl (V_assign rfl rfl) (GR_nil) ?_
                        refine GT_nil ?_
                        exact GE_to (ih2 (n + 1) (by omega) (by omega)) ⟨rfl, rfl, rfl, rfl, rfl, rfl, trivial⟩ HS.nil
                    · skip
                      refine GT_skip rfl rfl rfl rfl rfl (by decide) rfl rfl ?_
                      refine GT_skip rfl rfl rfl rfl rfl (by decide) rfl rfl ?_
                      refine GT_st rfl rfl rfl rfl (V_pick_f rfl rfl rfl) ?_
                      refine GT_st rfl rfl rfl rfl (V_move rfl rfl) ?_
                      refine GT_st_g rfl rfl rfl rfl rfl rfl rfl (V_move rfl rfl) ?_
                      refine GT_st_g rfl rfl rfl rfl rfl rfl rfl (V_eql rfl rfl rfl) ?_
                      refine GT_st_g rfl rfl rfl rfl rfl rfl rfl (V_move rfl rfl) ?_
                      first | refine GT_splitNot (d := 120) rfl (fun q10 => ?_) (fun q10 => ?_) | refine GT_split (d := 120) rfl (fun q10 => ?_) (fun q10 => ?_) | refine GT_splitNotB (d := 120) rfl (fun q10 => ?_) (fun q10 => ?_) | refine GT_splitB (d := 120) rfl (fun q10 => ?_) (fun q10 => ?_)
                      · skip
                        refine GT_st_g rfl rfl rfl rfl rfl rfl rfl (V_move rfl rfl) ?_
                        refine GT_st_g rfl rfl rfl rfl rfl rfl rfl (V_pick_t rfl rfl rfl) ?_
                        refine GT_st_g rfl rfl rfl rfl rfl rfl rfl (V_move rfl rfl) ?_
                        first | refine GT_splitNot (d := 123) rfl (fun q11 => ?_) (fun q11 => ?_) | refine GT_split (d := 123) rfl (fun q11 => ?_) (fun q11 => ?_) | refine GT_splitNotB (d := 123) rfl (fun q11 => ?_) (fun q11 => ?_) | refine GT_splitB (d := 123) rfl (fun q11 => ?_) (fun q11 => ?_)
                        · skip
                          refine GT_st_g rfl rfl rfl rfl rfl rfl rfl (V_move rfl rfl) ?_
                          refine GT_st_g rfl rfl rfl rfl rfl rfl rfl (V_lss rfl rfl rfl) ?_
                          refine GT_st_g rfl rfl rfl rfl rfl rfl rfl (V_pick_t rfl rfl rfl) ?_
                          refine GT_st_g rfl rfl rfl rfl rfl rfl rfl (V_move rfl rfl) ?_
                          first | refine GT_splitNot (d := 127) rfl (fun q12 => ?_) (fun q12 => ?_) | refine GT_split (d := 127) rfl (fun q12 => ?_) (fun q12 => ?_) | refine GT_splitNotB (d := 127) rfl (fun q12 => ?_) (fun q12 => ?_) | refine GT_splitB (d := 127) rfl (fun q12 => ?_) (fun q12 => ?_)
                          · have hov : rErr l (pL p g) = 4 := (by rw [rErr, if_pos hGL, if_neg (pL_loud hP (hala q11) (by rw [Bool.eq_false_iff]; intro e; have := (hd_iff hP hgb.1 (by omega)).1 e; omega))])
                            refine GT_st_g rfl rfl rfl rfl rfl rfl rfl (V_move rfl rfl) ?_
                            refine GT_st_g rfl rfl rfl rfl rfl rfl rfl (V_isF (V_neq rfl rfl rfl) (fun q => q hov)) ?_
                            refine GT_st_g rfl rfl rfl rfl rfl rfl rfl (V_pick_t rfl rfl rfl) ?_
                            refine GT_st rfl rfl rfl rfl (V_pick_f rfl rfl rfl) ?_
                            refine GT_nil ?_
                            refine GE_cond_f rfl ?_
                            refine GE_skip ?_
                            refine GE_inBlock ?_
                            refine GE_slots (L' := [(0, _), (1, _), (2, _), (7, _), (9, _), (11, _), (114, _), (115, _), (118, _), (119, _), (120, _), (121, _), (122, _), (123, _), (124, _), (125, _), (126, _), (127, _), (128, _), (129, _), (130, _)]) ⟨rfl, rfl, rfl, rfl, rfl, rfl, rfl, rfl, rfl, rfl, rfl, rfl, rfl, rfl, rfl, rfl, rfl, rfl, rfl, rfl, rfl, trivial⟩ ?_
                            refine GE_plain (.st 0 (.st 1 (.ld 2 [] .nil))) rfl ?_
                            refine GT_st rfl rfl rfl rfl (V_move rfl rfl) ?_
                            refine GT_st rfl rfl rfl rfl (V_add rfl rfl rfl (wrap_i64 (by omega))) ?_
                            refine GT_ldv rfl rfl rfl rfl rfl (V_assign rfl rfl) (GR_nil) ?_
                            refine GT_nil ?_
                            exact GE_to (ih2 (n + 1) (by omega) (by omega)) ⟨rfl, rfl, rfl, rfl, rfl, rfl, trivial⟩ HS.nil
                          · skip
                            refine GT_skip rfl rfl rfl rfl rfl (by decide) rfl rfl ?_
                            refine GT_skip rfl rfl rfl rfl rfl (by decide) rfl rfl ?_
                            refine GT_st_g rfl rfl rfl rfl rfl rfl rfl (V_pick_f rfl rfl rfl) ?_
                            refine GT_st rfl rfl rfl rfl (V_pick_f rfl rfl rfl) ?_
                            refine GT_nil ?_
                            refine GE_cond_f rfl ?_
                            refine GE_skip ?_
                            refine GE_inBlock ?_
                            refine GE_slots (L' := [(0, _), (1, _), (2, _), (7, _), (9, _), (11, _), (114, _), (115, _), (118, _), (119, _), (120, _), (121, _), (122, _), (123, _), (124, _), (125, _), (126, _), (127, _), (128, _), (129, _), (130, _)]) ⟨rfl, rfl, rfl, rfl, rfl, rfl, rfl, rfl, rfl, rfl, rfl, rfl, rfl, rfl, rfl, rfl, rfl, rfl, rfl, rfl, rfl, trivial⟩ ?_
                            refine GE_plain (.st 0 (.st 1 (.ld 2 [] .nil))) rfl ?_
                            refine GT_st rfl rfl rfl rfl (V_move rfl rfl) ?_
                            refine GT_st rfl rfl rfl rfl (V_add rfl rfl rfl (wrap_i64 (by omega))) ?_
                            refine GT_ldv rfl rfl rfl rfl rfl (V_assign rfl rfl) (GR_nil) ?_
                            refine GT_nil ?_
                            exact GE_to (ih2 (n + 1) (by omega) (by omega)) ⟨rfl, rfl, rfl, rfl, rfl, rfl, trivial⟩ HS.nil
                        · skip
                          refine GT_skip rfl rfl rfl rfl rfl (by decide) rfl rfl ?_
                          refine GT_skip rfl rfl rfl rfl rfl (by decide) rfl rfl ?_
                          refine GT_st_g rfl rfl rfl rfl rfl rfl rfl (V_pick_f rfl rfl rfl) ?_
                          refine GT_st_g rfl rfl rfl rfl rfl rfl rfl (V_move rfl rfl) ?_
                          refine GT_skip rfl rfl rfl rfl rfl (by decide) rfl rfl ?_
                          refine GT_skip rfl rfl rfl rfl rfl (by decide) rfl rfl ?_
                          refine GT_st_g rfl rfl rfl rfl rfl rfl rfl (V_pick_f rfl rfl rfl) ?_
                          refine GT_st rfl rfl rfl rfl (V_pick_f rfl rfl rfl) ?_
                          refine GT_nil ?_
                          refine GE_cond_f rfl ?_
                          refine GE_skip ?_
                          refine GE_inBlock ?_
                          refine GE_slots (L' := [(0, _), (1, _), (2, _), (7, _), (9, _), (11, _), (114, _), (115, _), (118, _), (119, _), (120, _), (121, _), (122, _), (123, _), (124, _), (125, _), (126, _), (127, _), (128, _), (129, _), (130, _)]) ⟨rfl, rfl, rfl, rfl, rfl, rfl, rfl, rfl, rfl, rfl, rfl, rfl, rfl, rfl, rfl, rfl, rfl, rfl, rfl, rfl, rfl, trivial⟩ ?_
                          refine GE_plain (.st 0 (.st 1 (.ld 2 [] .nil))) rfl ?_
                          refine GT_st rfl rfl rfl rfl (V_move rfl rfl) ?_
                          refine GT_st rfl rfl rfl rfl (V_add rfl rfl rfl (wrap_i64 (by omega))) ?_
                          refine GT_ldv rfl rfl rfl rfl rfl (V_assign rfl rfl) (GR_nil) ?_
                          refine GT_nil ?_
                          exact GE_to (ih2 (n + 1) (by omega) (by omega)) ⟨rfl, rfl, rfl, rfl, rfl, rfl, trivial⟩ HS.nil
                      · skip
                        refine GT_skip rfl rfl rfl rfl rfl (by decide) rfl rfl ?_
                        refine GT_st_g rfl rfl rfl rfl rfl rfl rfl (V_pick_f rfl rfl rfl) ?_
                        refine GT_st_g rfl rfl rfl rfl rfl rfl rfl (V_move rfl rfl) ?_
                        refine GT_skip rfl rfl rfl rfl rfl (by decide) rfl rfl ?_
                        refine GT_skip rfl rfl rfl rfl rfl (by decide) rfl rfl ?_
                        refine GT_st_g rfl rfl rfl rfl rfl rfl rfl (V_pick_f rfl rfl rfl) ?_
                        refine GT_st_g rfl rfl rfl rfl rfl rfl rfl (V_move rfl rfl) ?_
                        refine GT_skip rfl rfl rfl rfl rfl (by decide) rfl rfl ?_
                        refine GT_skip rfl rfl rfl rfl rfl (by decide) rfl rfl ?_
                        refine GT_st_g rfl rfl rfl rfl rfl rfl rfl (V_pick_f rfl rfl rfl) ?_
                        refine GT_st rfl rfl rfl rfl (V_pick_f rfl rfl rfl) ?_
                        refine GT_nil ?_
                        refine GE_cond_f rfl ?_
                        refine GE_skip ?_
                        refine GE_inBlock ?_
                        refine GE_slots (L' := [(0, _), (1, _), (2, _), (7, _), (9, _), (11, _), (114, _), (115, _), (118, _), (119, _), (120, _), (121, _), (122, _), (123, _), (124, _), (125, _), (126, _), (127, _), (128, _), (129, _), (130, _)]) ⟨rfl, rfl, rfl, rfl, rfl, rfl, rfl, rfl, rfl, rfl, rfl, rfl, rfl, rfl, rfl, rfl, rfl, rfl, rfl, rfl, rfl, trivial⟩ ?_
                        refine GE_plain (.st 0 (.st 1 (.ld 2 [] .nil))) rfl ?_
                        refine GT_st rfl rfl rfl rfl (V_move rfl rfl) ?_
                        refine GT_st rfl rfl rfl rfl (V_add rfl rfl rfl (wrap_i64 (by omega))) ?_
                        refine GT_ldv rfl rfl rfl rfl rfl (V_assign rfl rfl) (GR_nil) ?_
                        refine GT_nil ?_
                        exact GE_to (ih2 (n + 1) (by omega) (by omega)) ⟨rfl, rfl, rfl, rfl, rfl, rfl, trivial⟩ HS.nil
              · exact ⟨Nat.zero_le _, by rw [pQ_zero]; exact hO4, fun _ i hi => absurd hi (Nat.not_lt_zero _)⟩
            · skip
              refine GE_exit rfl ?_
              refine GE_seq ?_
              refine GE_slots (L' := []) trivial ?_
              refine GE_plain (.ld 0 [] (.st 1 .nil)) rfl ?_
              refine GT_call0 rfl rfl rfl rfl rfl rfl rfl rfl rn_16 (fun w hw => C_Works) (GR_nil) ?_
              refine GT_st rfl rfl rfl rfl (V_assign rfl rfl) ?_
              refine GT_nil ?_
              refine GE_ret Tryd.func9 rfl (fun w hw => ⟨?_, hw.nil⟩)
              rfl
          · exact Nat.zero_le _
      · exact ⟨Nat.zero_le _, fun _ i hi => absurd hi (Nat.not_lt_zero _)⟩
end
end Go.Proofs.YtnklkobhjdkblaaDoor
