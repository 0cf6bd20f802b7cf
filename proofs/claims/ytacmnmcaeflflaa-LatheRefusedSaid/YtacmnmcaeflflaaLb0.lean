/- LatheRefused, walked. -/
import Derived.Test.YtacmnmcaeflflaaSxB
import Derived.Test.YtacmnmcaeflflaaLaR
import Derived.Test.YtacmnmcaeflflaaLaZ
namespace Go.Proofs.Ytacmnmcaeflflaa
open Go.Sx Go.Proofs

theorem refE_zero {b : Blank} {l : List Pt} {st : List Stp} (he : both b l = 0) (h1 : st.length ≤ 16384) (h2 : provesB b l st = true) : refE b l st = 0 := by unfold refE; rw [if_pos he, if_neg (by omega), if_pos h2]
theorem refE_open {b : Blank} {l : List Pt} {st : List Stp} (he : both b l = 0) (h1 : st.length ≤ 16384) (h2 : provesB b l st = false) : refE b l st = 16 := by unfold refE; rw [if_pos he, if_neg (by omega), h2]; rfl
theorem refE_right {b : Blank} {l : List Pt} {st : List Stp} (he : both b l = 0) (h : refE b l st = 0) : outE b l = 15 := by
  unfold refE at h
  rw [if_pos he] at h
  split at h
  · cases h
  · split at h
    · rename_i hp; exact (outE_none he (proves_right he hp)).1
    · cases h
theorem both_codes {b : Blank} {l : List Pt} (he : both b l = 0) : (outE b l = 0 ∧ refuseE b l = 5) ∨ (outE b l = 15 ∧ refuseE b l = 0) := by
  unfold outE refuseE
  rw [if_pos he, if_pos he]
  cases outer b l <;> simp

set_option maxRecDepth 10000 in
theorem L_LatheRefused {b : Blank} {A A2 A3 : Option Addr} {l : List Pt} {st : List Stp} {r : List Int} {c c2 c3 : Nat} {x : Int} {w : World} (hp : RdL w 2 ePt A l) (_ : l.length ≤ c ∧ c ≤ maxLen ∧ ∀ x ∈ l, PtWf x) (hs : RdL w 2 eStp A2 st) (_ : st.length ≤ c2 ∧ c2 ≤ maxLen ∧ ∀ x ∈ st, StpWf x)
    (hr : RdL w 1 eI A3 r) (_ : r.length ≤ c3 ∧ c3 ≤ maxLen ∧ ∀ x ∈ r, I64 x) (hxw : (Lit.int .u8 x).wf = true) :
    Con0 Try.prog 13 [b.val, .slice A l.length c, .slice A2 st.length c2, .slice A3 r.length c3, .int .u8 x] w (.bool true) := by
  have hx := u8_of hxw
  refine Ret_of (vs := [_, _, _, _, _]) hm none' Try.func13 rfl Try.ntmps13 rfl ?_
  dsimp only [slotsOf]
  refine GE_seq ?_
  refine GE_plain (.ld 0 [] (.st 1 .nil)) rfl ?_
  refine GT_box (z := [_, _, _, _, _, _]) rfl rfl rfl rfl rfl rfl rfl (fun _ => GR_nil) (fun b5 => ?_)
  refine GT_st rfl rfl rfl rfl (V_assign rfl rfl) ?_
  refine GT_nil ?_
  refine GE_seq ?_
  refine GE_seq ?_
  refine GE_plain (.st 0 (.st 1 (.ld 2 [] (.st 3 (.st 4 (.st 5 (.st 6 (.st 7 (.st 8 (.st 9 (.st 10 (.st 11 (.st 12 (.st 13 .nil)))))))))))))) rfl ?_
  refine GT_st rfl rfl rfl rfl (V_loadN (vs := [_, _, _, _, _, _]) rfl rfl ag_23 sz_23 rfl (CellsAt.item rfl)) ?_
  refine GT_st rfl rfl rfl rfl (V_move rfl rfl) ?_
  refine GT_call0 rfl rfl rfl rfl rfl rfl rfl rfl rn_24 (fun w hw => C_law05_valid (hp.sh hw)) (GR_nil) ?_
  first | refine GT_st rfl rfl rfl rfl (V_not rfl rfl) ?_ | refine GT_st rfl rfl rfl rfl (V_notB rfl rfl) ?_
  refine GT_st rfl rfl rfl rfl (V_move rfl rfl) ?_
  first | refine GT_splitNot (d := 24) rfl (fun h1 => ?_) (fun h1 => ?_) | refine GT_split (d := 24) rfl (fun h1 => ?_) (fun h1 => ?_) | refine GT_splitNotB (d := 24) rfl (fun h1 => ?_) (fun h1 => ?_) | refine GT_splitB (d := 24) rfl (fun h1 => ?_) (fun h1 => ?_)
  · skip
    refine GT_skip rfl rfl rfl rfl rfl (by decide) rfl rfl ?_
    refine GT_skip rfl rfl rfl rfl rfl (by decide) rfl rfl ?_
    refine GT_skip rfl rfl rfl rfl rfl (by decide) rfl rfl ?_
    refine GT_st rfl rfl rfl rfl (V_pick_t rfl rfl rfl) ?_
    refine GT_st rfl rfl rfl rfl (V_move rfl rfl) ?_
    refine GT_skip rfl rfl rfl rfl rfl (by decide) rfl rfl ?_
    refine GT_skip rfl rfl rfl rfl rfl (by decide) rfl rfl ?_
    refine GT_skip rfl rfl rfl rfl rfl (by decide) rfl rfl ?_
    refine GT_st rfl rfl rfl rfl (V_pick_t rfl rfl rfl) ?_
    refine GT_nil ?_
    refine GE_cond_t rfl ?_
    refine GE_seq ?_
    refine GE_slots (L' := []) trivial ?_
    refine GE_plain (.ld 0 [] (.st 1 .nil)) rfl ?_
    refine GT_call0 rfl rfl rfl rfl rfl rfl rfl rfl rn_16 (fun w hw => C_law05_Works) (GR_nil) ?_
    refine GT_st rfl rfl rfl rfl (V_assign rfl rfl) ?_
    refine GT_nil ?_
    refine GE_ret Try.func13 rfl (fun w hw => ⟨?_, hw.nil⟩)
    rfl
  · obtain ⟨hl, he⟩ := of_valid h1; have hco := both_codes he
    refine GT_st_g rfl rfl rfl rfl rfl rfl rfl (V_move rfl rfl) ?_
    refine GT_st_g rfl rfl rfl rfl rfl rfl rfl (V_len rfl Try.underlying56 rfl) ?_
    refine GT_st_g rfl rfl rfl rfl rfl rfl rfl (V_gtr rfl rfl rfl) ?_
    refine GT_st rfl rfl rfl rfl (V_pick_f rfl rfl rfl) ?_
    refine GT_st rfl rfl rfl rfl (V_move rfl rfl) ?_
    first | refine GT_splitNot (d := 29) rfl (fun h2 => ?_) (fun h2 => ?_) | refine GT_split (d := 29) rfl (fun h2 => ?_) (fun h2 => ?_) | refine GT_splitNotB (d := 29) rfl (fun h2 => ?_) (fun h2 => ?_) | refine GT_splitB (d := 29) rfl (fun h2 => ?_) (fun h2 => ?_)
    · skip
      refine GT_skip rfl rfl rfl rfl rfl (by decide) rfl rfl ?_
      refine GT_skip rfl rfl rfl rfl rfl (by decide) rfl rfl ?_
      refine GT_skip rfl rfl rfl rfl rfl (by decide) rfl rfl ?_
      refine GT_st rfl rfl rfl rfl (V_pick_t rfl rfl rfl) ?_
      refine GT_nil ?_
      refine GE_cond_t rfl ?_
      refine GE_seq ?_
      refine GE_slots (L' := []) trivial ?_
      refine GE_plain (.ld 0 [] (.st 1 .nil)) rfl ?_
      refine GT_call0 rfl rfl rfl rfl rfl rfl rfl rfl rn_16 (fun w hw => C_law05_Works) (GR_nil) ?_
      refine GT_st rfl rfl rfl rfl (V_assign rfl rfl) ?_
      refine GT_nil ?_
      refine GE_ret Try.func13 rfl (fun w hw => ⟨?_, hw.nil⟩)
      rfl
    · have hls : st.length ≤ 200 := (by omega)
      refine GT_st_g rfl rfl rfl rfl rfl rfl rfl (V_move rfl rfl) ?_
      refine GT_st_g rfl rfl rfl rfl rfl rfl rfl (V_len rfl Try.underlying25 rfl) ?_
      refine GT_st_g rfl rfl rfl rfl rfl rfl rfl (V_gtr rfl rfl rfl) ?_
      refine GT_st rfl rfl rfl rfl (V_pick_f rfl rfl rfl) ?_
      refine GT_nil ?_
      first | refine GE_condNot rfl (fun h3 => ?_) (fun h3 => ?_) | refine GE_cond rfl (fun h3 => ?_) (fun h3 => ?_) | refine GE_condNotB rfl (fun h3 => ?_) (fun h3 => ?_) | refine GE_condB rfl (fun h3 => ?_) (fun h3 => ?_)
      · skip
        refine GE_seq ?_
        refine GE_slots (L' := []) trivial ?_
        refine GE_plain (.ld 0 [] (.st 1 .nil)) rfl ?_
        refine GT_call0 rfl rfl rfl rfl rfl rfl rfl rfl rn_16 (fun w hw => C_law05_Works) (GR_nil) ?_
        refine GT_st rfl rfl rfl rfl (V_assign rfl rfl) ?_
        refine GT_nil ?_
        refine GE_ret Try.func13 rfl (fun w hw => ⟨?_, hw.nil⟩)
        rfl
      · have hlr : r.length ≤ 100 := (by omega)
        refine GE_skip ?_
        refine GE_seq ?_
        refine GE_slots (L' := [(1, _), (2, _), (3, _), (4, _), (5, _)]) ⟨rfl, rfl, rfl, rfl, rfl, trivial⟩ ?_
        refine GE_plain (.st 0 (.st 1 (.ld 2 [] (.st 3 (.st 4 (.st 5 (.st 6 (.st 7 .nil)))))))) rfl ?_
        refine GT_st rfl rfl rfl rfl (V_loadN (vs := [_, _, _, _, _, _]) rfl rfl ag_23 sz_23 rfl (CellsAt.item rfl)) ?_
        refine GT_st rfl rfl rfl rfl (V_move rfl rfl) ?_
        refine GT_call rfl rfl rfl rfl rfl rfl rfl rfl rn_17 (fun w hw => C_lathe_Outermost (hp.sh hw)) (fun _ _ => GR_nil) (fun y hy => ?_)
        refine GT_st rfl rfl rfl rfl (V_move rfl rfl) ?_
        refine GT_st rfl rfl rfl rfl (V_extract rfl rfl rfl) ?_
        refine GT_st rfl rfl rfl rfl (V_extract rfl rfl rfl) ?_
        refine GT_st rfl rfl rfl rfl (V_assign rfl rfl) ?_
        refine GT_st rfl rfl rfl rfl (V_assign rfl rfl) ?_
        refine GT_nil ?_
        refine GE_seq ?_
        refine GE_slots (L' := [(1, _), (2, _), (3, _), (4, _), (5, _), (12, _)]) ⟨rfl, rfl, rfl, rfl, rfl, rfl, trivial⟩ ?_
        refine GE_plain (.st 0 (.st 1 (.ld 2 [] (.st 3 (.st 4 (.st 5 (.st 6 (.st 7 .nil)))))))) rfl ?_
        refine GT_st rfl rfl rfl rfl (V_loadN (vs := [_, _, _, _, _, _]) rfl rfl ag_23 sz_23 rfl (CellsAt.item rfl)) ?_
        refine GT_st rfl rfl rfl rfl (V_move rfl rfl) ?_
        refine GT_call rfl rfl rfl rfl rfl rfl rfl rfl rn_34 (fun w hw => C_lathe_Refuse (hp.sh hw)) (fun _ _ => GR_nil) (fun z hz => ?_)
        refine GT_st rfl rfl rfl rfl (V_move rfl rfl) ?_
        refine GT_st rfl rfl rfl rfl (V_extract rfl rfl rfl) ?_
        refine GT_st rfl rfl rfl rfl (V_extract rfl rfl rfl) ?_
        refine GT_st rfl rfl rfl rfl (V_assign rfl rfl) ?_
        refine GT_st rfl rfl rfl rfl (V_assign rfl rfl) ?_
        refine GT_nil ?_
        refine GE_seq ?_
        refine GE_seq ?_
        refine GE_slots (L' := [(1, _), (2, _), (3, _), (4, _), (5, _), (12, _), (13, _), (14, _)]) ⟨rfl, rfl, rfl, rfl, rfl, rfl, rfl, rfl, trivial⟩ ?_
        refine GE_plain (.st 0 (.st 1 (.st 2 (.st 3 (.st 4 (.st 5 (.st 6 (.st 7 (.st 8 (.st 9 (.st 10 (.st 11 .nil)))))))))))) rfl ?_
        refine GT_st rfl rfl rfl rfl (V_move rfl rfl) ?_
        refine GT_st rfl rfl rfl rfl (V_eql rfl rfl rfl) ?_
        refine GT_st rfl rfl rfl rfl (V_move rfl rfl) ?_
        refine GT_st rfl rfl rfl rfl (V_eql rfl rfl rfl) ?_
        refine GT_st rfl rfl rfl rfl (V_neqBB_same rfl rfl rfl Try.underlying4 (by rw [Bool.eq_iff_iff, decide_eq_true_eq, decide_eq_true_eq]; omega)) ?_
        refine GT_st rfl rfl rfl rfl (V_move rfl rfl) ?_
        refine GT_st_g rfl rfl rfl rfl rfl rfl rfl (V_move rfl rfl) ?_
        refine GT_st_g rfl rfl rfl rfl rfl rfl rfl (V_eql rfl rfl rfl) ?_
        refine GT_st_g rfl rfl rfl rfl rfl rfl rfl (V_move rfl rfl) ?_
        refine GT_st_g rfl rfl rfl rfl rfl rfl rfl (V_eql rfl rfl rfl) ?_
        refine GT_st_g rfl rfl rfl rfl rfl rfl rfl (V_neqBB_same rfl rfl rfl Try.underlying4 (by rw [Bool.eq_iff_iff, decide_eq_true_eq, decide_eq_true_eq]; omega)) ?_
        refine GT_st rfl rfl rfl rfl (V_pick_f rfl rfl rfl) ?_
        refine GT_nil ?_
        refine GE_cond_f rfl ?_
        refine GE_skip ?_
        refine GE_seq ?_
        refine GE_seq ?_
        refine GE_slots (L' := [(1, _), (2, _), (3, _), (4, _), (5, _), (12, _), (13, _), (14, _)]) ⟨rfl, rfl, rfl, rfl, rfl, rfl, rfl, rfl, trivial⟩ ?_
        refine GE_plain (.st 0 (.st 1 (.st 2 (.ld 3 [] (.st 4 (.st 5 (.st 6 (.st 7 (.st 8 .nil))))))))) rfl ?_
        refine GT_st rfl rfl rfl rfl (V_loadN (vs := [_, _, _, _, _, _]) rfl rfl ag_23 sz_23 rfl (CellsAt.item rfl)) ?_
        refine GT_st rfl rfl rfl rfl (V_move rfl rfl) ?_
        refine GT_st rfl rfl rfl rfl (V_move rfl rfl) ?_
        refine GT_call0 rfl rfl rfl rfl rfl rfl rfl rfl rn_35 (fun w hw => C_lathe_CheckRefusal (hp.sh hw) (hs.sh hw) (by omega)) (GR_nil) ?_
        refine GT_st rfl rfl rfl rfl (V_eql rfl rfl rfl) ?_
        refine GT_st rfl rfl rfl rfl (V_move rfl rfl) ?_
        first | refine GT_splitNot (d := 64) rfl (fun h4 => ?_) (fun h4 => ?_) | refine GT_split (d := 64) rfl (fun h4 => ?_) (fun h4 => ?_) | refine GT_splitNotB (d := 64) rfl (fun h4 => ?_) (fun h4 => ?_) | refine GT_splitB (d := 64) rfl (fun h4 => ?_) (fun h4 => ?_)
        · have ho := refE_right he h4
          refine GT_st_g rfl rfl rfl rfl rfl rfl rfl (V_move rfl rfl) ?_
          refine GT_st_g rfl rfl rfl rfl rfl rfl rfl (V_isF (V_neq rfl rfl rfl) (fun h => h ho)) ?_
          refine GT_st rfl rfl rfl rfl (V_pick_t rfl rfl rfl) ?_
          refine GT_nil ?_
          refine GE_cond_f rfl ?_
          refine GE_skip ?_
          refine GE_seq ?_
          refine GE_seq ?_
          refine GE_slots (L' := [(1, _), (3, _), (4, _), (5, _), (13, _), (14, _)]) ⟨rfl, rfl, rfl, rfl, rfl, rfl, trivial⟩ ?_
          refine GE_plain (.st 0 (.st 1 .nil)) rfl ?_
          refine GT_st rfl rfl rfl rfl (V_move rfl rfl) ?_
          refine GT_st rfl rfl rfl rfl (V_neq rfl rfl rfl) ?_
          refine GT_nil ?_
          first | refine GE_condNot rfl (fun h5 => ?_) (fun h5 => ?_) | refine GE_cond rfl (fun h5 => ?_) (fun h5 => ?_) | refine GE_condNotB rfl (fun h5 => ?_) (fun h5 => ?_) | refine GE_condB rfl (fun h5 => ?_) (fun h5 => ?_)
          · have hnil := hz.2.2 h5
            refine GE_seq ?_
            refine GE_slots (L' := [(13, _)]) ⟨rfl, trivial⟩ ?_
            refine GE_plain (.st 0 (.st 1 (.st 2 (.st 3 (.ld 4 [] (.st 5 (.st 6 .nil))))))) rfl ?_
            refine GT_st rfl rfl rfl rfl (V_move rfl rfl) ?_
            refine GT_st rfl rfl rfl rfl (V_len rfl Try.underlying56 rfl) ?_
            refine GT_st rfl rfl rfl rfl (V_isT (V_eql rfl rfl rfl) (by rw [hnil]; rfl)) ?_
            refine GT_st rfl rfl rfl rfl (V_move rfl rfl) ?_
            refine GT_call0_g rfl rfl rfl rfl rfl rfl rfl rfl rfl rfl rfl rn_16 (fun w hw => C_law05_Works) (GR_nil) ?_
            refine GT_st rfl rfl rfl rfl (V_pick_t rfl rfl rfl) ?_
            refine GT_st rfl rfl rfl rfl (V_assign rfl rfl) ?_
            refine GT_nil ?_
            refine GE_ret Try.func13 rfl (fun w hw => ⟨?_, hw.nil⟩)
            rfl
          · obtain ⟨hz0, ho, rad, hS⟩ := hz.2.1 (by omega); have hF := search_found he hS hz0; have hFl := hF.len; have hcap : z.1.length ≤ z.2.2.1 := (by obtain ⟨A', c', e, h⟩ := hz.1.form; cases e; exact h)
            refine GE_skip ?_
            refine GE_seq ?_
            refine GE_plain (.st 0 (.st 1 (.st 2 (.ld 3 [] (.st 4 (.st 5 (.st 6 (.st 7 (.st 8 (.st 9 (.st 10 .nil))))))))))) rfl ?_
            refine GT_st rfl rfl rfl rfl (V_loadN (vs := [_, _, _, _, _, _]) rfl rfl ag_23 sz_23 rfl (CellsAt.item rfl)) ?_
            refine GT_st rfl rfl rfl rfl (V_move rfl rfl) ?_
            refine GT_st rfl rfl rfl rfl (V_move rfl rfl) ?_
            refine GT_call0 rfl rfl rfl rfl rfl rfl rfl rfl rn_19 (fun w hw => C_lathe_CheckCut (hp.sh hw) (hr.sh hw) (by omega)) (GR_nil) ?_
            refine GT_st rfl rfl rfl rfl (V_move rfl rfl) ?_
            refine GT_st rfl rfl rfl rfl (V_extract rfl rfl rfl) ?_
            refine GT_st rfl rfl rfl rfl (V_extract rfl rfl rfl) ?_
            refine GT_st rfl rfl rfl rfl (V_extract rfl rfl rfl) ?_
            refine GT_st rfl rfl rfl rfl (V_assign rfl rfl) ?_
            refine GT_st rfl rfl rfl rfl (V_assign rfl rfl) ?_
            refine GT_st rfl rfl rfl rfl (V_assign rfl rfl) ?_
            refine GT_nil ?_
            refine GE_seq ?_
            refine GE_seq ?_
            refine GE_slots (L' := [(1, _), (4, _), (5, _), (13, _), (17, _)]) ⟨rfl, rfl, rfl, rfl, rfl, trivial⟩ ?_
            refine GE_plain (.st 0 (.st 1 (.st 2 (.st 3 (.st 4 (.st 5 (.st 6 (.st 7 (.st 8 (.st 9 (.st 10 (.st 11 (.st 12 (.st 13 (.st 14 (.st 15 (.ld 16 [] (.st 17 (.st 18 .nil))))))))))))))))))) rfl ?_
            refine GT_st rfl rfl rfl rfl (V_move rfl rfl) ?_
            refine GT_st rfl rfl rfl rfl (V_isF (V_eql rfl rfl rfl) (outer_no_cut he ho)) ?_
            refine GT_st rfl rfl rfl rfl (V_move rfl rfl) ?_
            refine GT_st_g rfl rfl rfl rfl rfl rfl rfl (V_move rfl rfl) ?_
            refine GT_st_g rfl rfl rfl rfl rfl rfl rfl (V_len rfl Try.underlying56 rfl) ?_
            refine GT_st_g rfl rfl rfl rfl rfl rfl rfl (V_isF (V_eql rfl rfl rfl) (by omega)) ?_
            refine GT_st rfl rfl rfl rfl (V_pick_f rfl rfl rfl) ?_
            refine GT_st rfl rfl rfl rfl (V_move rfl rfl) ?_
            refine GT_st_g rfl rfl rfl rfl rfl rfl rfl (V_move rfl rfl) ?_
            refine GT_st_g rfl rfl rfl rfl rfl rfl rfl (V_len rfl Try.underlying56 rfl) ?_
            refine GT_st_g rfl rfl rfl rfl rfl rfl rfl (V_isF (V_gtr rfl rfl rfl) (by omega)) ?_
            refine GT_st rfl rfl rfl rfl (V_pick_f rfl rfl rfl) ?_
            refine GT_st rfl rfl rfl rfl (V_move rfl rfl) ?_
            refine GT_st_g rfl rfl rfl rfl rfl rfl rfl (V_loadN (vs := [_, _, _, _, _, _]) rfl rfl ag_23 sz_23 rfl (CellsAt.item rfl)) ?_
            refine GT_st_g rfl rfl rfl rfl rfl rfl rfl (V_move rfl rfl) ?_
            refine GT_st_g rfl rfl rfl rfl rfl rfl rfl (V_move rfl rfl) ?_
            refine GT_call0_g rfl rfl rfl rfl rfl rfl rfl rfl rfl rfl rfl rn_35 (fun w hw => C_lathe_CheckRefusal (hp.sh hw) (hz.1.rdH eStp_len hw) (by omega)) (GR_nil) ?_
            refine GT_st_g rfl rfl rfl rfl rfl rfl rfl (V_isF (V_neq rfl rfl rfl) (fun h => h (refE_zero he hFl hF.right))) ?_
            refine GT_st rfl rfl rfl rfl (V_pick_f rfl rfl rfl) ?_
            refine GT_nil ?_
            refine GE_cond_f rfl ?_
            refine GE_skip ?_
            refine GE_seq ?_
            refine GE_seq ?_
            refine GE_slots (L' := [(1, _), (4, _), (5, _), (13, _)]) ⟨rfl, rfl, rfl, rfl, trivial⟩ ?_
            refine GE_plain (.st 0 (.st 1 (.st 2 (.st 3 (.st 4 .nil))))) rfl ?_
            refine GT_st rfl rfl rfl rfl (V_move rfl rfl) ?_
            refine GT_st rfl rfl rfl rfl (V_index (k := 0) rfl rfl rfl Try.underlying56 sz_62 rfl hz0 (hz.1.isSome (k := 0) hz0)) ?_
            first | refine GT_st rfl rfl rfl rfl (V_field rfl rfl fo_62_0) ?_ | refine GT_st rfl rfl rfl rfl (V_fieldA rfl rfl fo_62_0) ?_
            refine GT_st rfl rfl rfl rfl (V_load rfl rfl ag_3 (CellAt.own0 hz.1 eStp_len hz0 rfl)) ?_
            refine GT_st rfl rfl rfl rfl (V_neq rfl rfl rfl) ?_
            refine GT_nil ?_
            first | refine GE_condNot rfl (fun h6 => ?_) (fun h6 => ?_) | refine GE_cond rfl (fun h6 => ?_) (fun h6 => ?_) | refine GE_condNotB rfl (fun h6 => ?_) (fun h6 => ?_) | refine GE_condB rfl (fun h6 => ?_) (fun h6 => ?_)
            · obtain ⟨k, hk, hkl⟩ : ∃ k : Nat, x.tmod (z.1.length : Int) = k ∧ k < z.1.length := ⟨(x.tmod (z.1.length : Int)).toNat, by have := Int.tmod_nonneg (z.1.length : Int) hx.1; omega, by have := Int.tmod_lt_of_pos x (show (0 : Int) < z.1.length by omega); have := Int.tmod_nonneg (z.1.length : Int) hx.1; omega⟩
              refine GE_seq ?_
              refine GE_slots (L' := [(1, _), (4, _), (5, _), (13, _)]) ⟨rfl, rfl, rfl, rfl, trivial⟩ ?_
              refine GE_plain (.st 0 (.st 1 (.st 2 (.st 3 (.st 4 (.st 5 .nil)))))) rfl ?_
              refine GT_st rfl rfl rfl rfl (V_move rfl rfl) ?_
              refine GT_st rfl rfl rfl rfl (V_convII rfl rfl (by rw [Try.underlying5]; rfl) Try.underlying3 (wrap_i64 (by omega))) ?_
              refine GT_st rfl rfl rfl rfl (V_move rfl rfl) ?_
              refine GT_st rfl rfl rfl rfl (V_len rfl Try.underlying56 rfl) ?_
              refine GT_st rfl rfl rfl rfl (V_rem rfl rfl rfl (by omega)) ?_
              refine GT_st rfl rfl rfl rfl (V_assign rfl rfl) ?_
              refine GT_nil ?_
              refine GE_seq ?_
              refine GE_slots (L' := [(1, _), (5, _), (13, _), (18, _)]) ⟨rfl, rfl, rfl, rfl, trivial⟩ ?_
              refine GE_drawn (.st 1 (.st 2 (.st 3 (.st 5 (.st 6 (.st 7 (.ld 0 [1, 2, 3, 5, 6, 7] (.ld 4 [1, 2, 5, 6, 7] (.ld 8 [1, 2, 3, 5, 6] (.st 9 .nil)))))))))) [0, 4, 8] (by decide +kernel) ?_
              refine GT_st rfl rfl rfl rfl (V_move rfl rfl) ?_
              refine GT_st rfl rfl rfl rfl (V_move rfl rfl) ?_
              refine GT_st rfl rfl rfl rfl (V_sliceFromL (lo := k) rfl rfl rfl Try.underlying56 sz_62 hk (by omega)) ?_
              refine GT_st rfl rfl rfl rfl (V_move rfl rfl) ?_
              refine GT_st rfl rfl rfl rfl (V_move rfl rfl) ?_
              refine GT_st rfl rfl rfl rfl (V_sliceToL (hi := k) rfl rfl rfl Try.underlying56 (by rw [sz_62]; rfl) hk (by omega) hcap) ?_
              refine GT_buildSlice (z := []) rfl rfl rfl rfl rfl Try.underlying56 zc_62 sz_62 (by decide) rfl rfl (fun _ => GR_cons rfl rfl rfl rfl (V_move rfl rfl) (GR_cons rfl rfl rfl rfl (V_move rfl rfl) (GR_cons rfl rfl rfl rfl (V_sliceFromL (lo := k) rfl rfl rfl Try.underlying56 sz_62 hk (by omega)) (GR_cons rfl rfl rfl rfl (V_move rfl rfl) (GR_cons rfl rfl rfl rfl (V_move rfl rfl) (GR_cons rfl rfl rfl rfl (V_sliceToL (hi := k) rfl rfl rfl Try.underlying56 (by rw [sz_62]; rfl) hk (by omega) hcap) (GR_nil))))))) (fun b113 => ?_)
              refine GT_append (enc := eStp) (l := []) (m := z.1.drop k) rfl rfl rfl rfl rfl rfl rfl (show Own 2 62 eStp [] (.slice (some ⟨b113, 0, none⟩) 0 0) [(b113, blk [] 62)] from Own.lit rfl rfl (by decide)) (fun w m => (hz.1.rdH eStp_len m).drop k hcap) Try.underlying56 zc_62 sz_62 ⟨rfl, by decide⟩ by_62 ⟨by simp only [List.length_nil, List.length_drop]; omega, by simp only [List.length_nil, List.length_drop]; omega⟩ eStp_len eStp_one (fun _ _ _ _ => GR_cons rfl rfl rfl rfl (V_move rfl rfl) (GR_cons rfl rfl rfl rfl (V_move rfl rfl) (GR_cons rfl rfl rfl rfl (V_move rfl rfl) (GR_cons rfl rfl rfl rfl (V_move rfl rfl) (GR_cons rfl rfl rfl rfl (V_sliceToL (hi := k) rfl rfl rfl Try.underlying56 (by rw [sz_62]; rfl) hk (by omega) hcap) (GR_nil)))))) (fun A7 c7 I7 hO7 => ?_)
              rw [List.nil_append] at hO7 ⊢
              refine GT_append (enc := eStp) (l := z.1.drop k) (m := z.1.take k) rfl rfl rfl rfl rfl rfl rfl hO7 (fun w m => (hz.1.rdH eStp_len m).take k) Try.underlying56 zc_62 sz_62 ⟨rfl, by decide⟩ by_62 ⟨by simp only [List.length_take, List.length_drop]; omega, by simp only [List.length_take, List.length_drop]; omega⟩ eStp_len eStp_one (fun _ _ _ _ => GR_cons rfl rfl rfl rfl (V_move rfl rfl) (GR_cons rfl rfl rfl rfl (V_move rfl rfl) (GR_cons rfl rfl rfl rfl (V_sliceFromL (lo := k) rfl rfl rfl Try.underlying56 sz_62 hk (by omega)) (GR_cons rfl rfl rfl rfl (V_move rfl rfl) (GR_cons rfl rfl rfl rfl (V_move rfl rfl) (GR_nil)))))) (fun A8 c8 I8 hO8 => ?_)
              have hl8 : (z.1.drop k ++ z.1.take k).length = z.1.length := (by simp only [List.length_append, List.length_take, List.length_drop]; omega)
              refine GT_st rfl rfl rfl rfl (V_assign rfl rfl) ?_
              refine GT_nil ?_
              refine GE_seq ?_
              refine GE_slots (L' := [(1, _), (5, _), (19, _)]) ⟨rfl, rfl, rfl, trivial⟩ ?_
              refine GE_plain (.st 0 (.st 1 (.st 2 (.ld 3 [] (.st 4 (.st 5 (.ld 6 [] (.st 7 (.st 8 .nil))))))))) rfl ?_
              refine GT_st rfl rfl rfl rfl (V_loadN (vs := [_, _, _, _, _, _]) rfl rfl ag_23 sz_23 rfl (CellsAt.item rfl)) ?_
              refine GT_st rfl rfl rfl rfl (V_move rfl rfl) ?_
              refine GT_st rfl rfl rfl rfl (V_move rfl rfl) ?_
              refine GT_call0 rfl rfl rfl rfl rfl rfl rfl rfl rn_35 (fun w hw => C_lathe_CheckRefusal (hp.sh hw) (hO8.rdH eStp_len hw) (by omega)) (GR_nil) ?_
              refine GT_st rfl rfl rfl rfl (V_isT (V_eql rfl rfl rfl) (refE_zero he (by omega) (hF.turned h6 k (by omega)))) ?_
              refine GT_st rfl rfl rfl rfl (V_move rfl rfl) ?_
              refine GT_call0_g rfl rfl rfl rfl rfl rfl rfl rfl rfl rfl rfl rn_16 (fun w hw => C_law05_Works) (GR_nil) ?_
              refine GT_st rfl rfl rfl rfl (V_pick_t rfl rfl rfl) ?_
              refine GT_st rfl rfl rfl rfl (V_assign rfl rfl) ?_
              refine GT_nil ?_
              refine GE_ret Try.func13 rfl (fun w hw => ⟨?_, hw.nil⟩)
              rfl
            · skip
              refine GE_skip ?_
              refine GE_seq ?_
              refine GE_slots (L' := [(1, _), (5, _), (13, _)]) ⟨rfl, rfl, rfl, trivial⟩ ?_
              have hen := hF.ends (by omega)
              refine GE_drawn (.st 0 (.st 1 (.st 2 (.st 3 (.st 4 (.st 5 (.st 6 (.st 7 (.ld 8 [0, 1, 2, 6] (.st 9 (.st 10 (.st 11 (.st 12 (.st 13 (.st 14 (.st 15 (.st 16 (.st 17 (.ld 18 [0, 1, 2, 3, 4, 5, 6, 7, 9, 13, 14, 15, 16] (.st 19 (.st 20 (.st 21 (.st 22 (.ld 23 [0, 1, 2, 3, 4, 5, 6, 7, 9, 10, 11, 12, 13, 14, 15, 16, 17, 19, 20, 21] (.st 24 (.st 25 .nil)))))))))))))))))))))))))) [8, 18, 23] (by decide +kernel) ?_
              refine GT_st rfl rfl rfl rfl (V_move rfl rfl) ?_
              refine GT_st rfl rfl rfl rfl (V_len rfl Try.underlying56 rfl) ?_
              refine GT_st rfl rfl rfl rfl (V_isF (V_lss rfl rfl rfl) (by omega)) ?_
              refine GT_st rfl rfl rfl rfl (V_move rfl rfl) ?_
              refine GT_st_g rfl rfl rfl rfl rfl rfl rfl (V_loadN (vs := [_, _, _, _, _, _]) rfl rfl ag_23 sz_23 rfl (CellsAt.item rfl)) ?_
              refine GT_st_g rfl rfl rfl rfl rfl rfl rfl (V_move rfl rfl) ?_
              refine GT_st_g rfl rfl rfl rfl rfl rfl rfl (V_move rfl rfl) ?_
              refine GT_st_g rfl rfl rfl rfl rfl rfl rfl (V_sliceFromL (lo := 1) rfl rfl rfl Try.underlying56 sz_62 rfl (by omega)) ?_
              refine GT_call0_g rfl rfl rfl rfl rfl rfl rfl rfl rfl rfl rfl rn_35 (fun w hw => C_lathe_CheckRefusal (hp.sh hw) ((hz.1.rdH eStp_len hw).drop 1 hcap) (by rw [List.length_drop]; omega)) (GR_cons rfl rfl rfl rfl (V_move rfl rfl) (GR_cons rfl rfl rfl rfl (V_len rfl Try.underlying56 rfl) (GR_cons rfl rfl rfl rfl (V_isF (V_lss rfl rfl rfl) (by omega)) (GR_cons_g rfl rfl rfl rfl rfl rfl rfl (V_move rfl rfl) (GR_nil))))) ?_
              refine GT_st_g rfl rfl rfl rfl rfl rfl rfl (V_isT (V_eql rfl rfl rfl) (refE_open he (by rw [List.length_drop]; omega) hen.2.1)) ?_
              refine GT_st_g rfl rfl rfl rfl rfl rfl rfl (V_move rfl rfl) ?_
              refine GT_st_g rfl rfl rfl rfl rfl rfl rfl (V_loadN (vs := [_, _, _, _, _, _]) rfl rfl ag_23 sz_23 rfl (CellsAt.item rfl)) ?_
              refine GT_st_g rfl rfl rfl rfl rfl rfl rfl (V_move rfl rfl) ?_
              refine GT_st_g rfl rfl rfl rfl rfl rfl rfl (V_move rfl rfl) ?_
              refine GT_st_g rfl rfl rfl rfl rfl rfl rfl (V_move rfl rfl) ?_
              refine GT_st_g rfl rfl rfl rfl rfl rfl rfl (V_len rfl Try.underlying56 rfl) ?_
              refine GT_st_g rfl rfl rfl rfl rfl rfl rfl (V_sub rfl rfl rfl (wrap_i64 (by omega))) ?_
              refine GT_st_g rfl rfl rfl rfl rfl rfl rfl (V_sliceToL (hi := z.1.length - 1) rfl rfl rfl Try.underlying56 (by rw [sz_62]; rfl) (by omega) (by omega) hcap) ?_
              refine GT_call0_g rfl rfl rfl rfl rfl rfl rfl rfl rfl rfl rfl rn_35 (fun w hw => C_lathe_CheckRefusal (hp.sh hw) ((hz.1.rdH eStp_len hw).take (z.1.length - 1)) (by rw [List.length_take]; omega)) (GR_cons rfl rfl rfl rfl (V_move rfl rfl) (GR_cons rfl rfl rfl rfl (V_len rfl Try.underlying56 rfl) (GR_cons rfl rfl rfl rfl (V_isF (V_lss rfl rfl rfl) (by omega)) (GR_cons rfl rfl rfl rfl (V_move rfl rfl) (GR_cons_g rfl rfl rfl rfl rfl rfl rfl (V_loadN (vs := [_, _, _, _, _, _]) rfl rfl ag_23 sz_23 rfl (CellsAt.item rfl)) (GR_cons_g rfl rfl rfl rfl rfl rfl rfl (V_move rfl rfl) (GR_cons_g rfl rfl rfl rfl rfl rfl rfl (V_move rfl rfl) (GR_cons_g rfl rfl rfl rfl rfl rfl rfl (V_sliceFromL (lo := 1) rfl rfl rfl Try.underlying56 sz_62 rfl (by omega)) (GR_cons_g rfl rfl rfl rfl rfl rfl rfl (V_isT (V_eql rfl rfl rfl) (refE_open he (by rw [List.length_drop]; omega) hen.2.1)) (GR_cons_g rfl rfl rfl rfl rfl rfl rfl (V_move rfl rfl) (GR_cons_g rfl rfl rfl rfl rfl rfl rfl (V_move rfl rfl) (GR_cons_g rfl rfl rfl rfl rfl rfl rfl (V_len rfl Try.underlying56 rfl) (GR_cons_g rfl rfl rfl rfl rfl rfl rfl (V_sub rfl rfl rfl (wrap_i64 (by omega))) (GR_nil)))))))))))))) ?_
              refine GT_st_g rfl rfl rfl rfl rfl rfl rfl (V_isT (V_eql rfl rfl rfl) (refE_open he (by rw [List.length_take]; omega) hen.2.2)) ?_
              refine GT_st_g rfl rfl rfl rfl rfl rfl rfl (V_pick_t rfl rfl rfl) ?_
              refine GT_st rfl rfl rfl rfl (V_pick_f rfl rfl rfl) ?_
              refine GT_st rfl rfl rfl rfl (V_move rfl rfl) ?_
              refine GT_call0_g rfl rfl rfl rfl rfl rfl rfl rfl rfl rfl rfl rn_16 (fun w hw => C_law05_Works) (GR_cons rfl rfl rfl rfl (V_move rfl rfl) (GR_cons rfl rfl rfl rfl (V_len rfl Try.underlying56 rfl) (GR_cons rfl rfl rfl rfl (V_isF (V_lss rfl rfl rfl) (by omega)) (GR_cons rfl rfl rfl rfl (V_move rfl rfl) (GR_cons_g rfl rfl rfl rfl rfl rfl rfl (V_loadN (vs := [_, _, _, _, _, _]) rfl rfl ag_23 sz_23 rfl (CellsAt.item rfl)) (GR_cons_g rfl rfl rfl rfl rfl rfl rfl (V_move rfl rfl) (GR_cons_g rfl rfl rfl rfl rfl rfl rfl (V_move rfl rfl) (GR_cons_g rfl rfl rfl rfl rfl rfl rfl (V_sliceFromL (lo := 1) rfl rfl rfl Try.underlying56 sz_62 rfl (by omega)) (GR_cons_g rfl rfl rfl rfl rfl rfl rfl (V_isT (V_eql rfl rfl rfl) (refE_open he (by rw [List.length_drop]; omega) hen.2.1)) (GR_cons_g rfl rfl rfl rfl rfl rfl rfl (V_move rfl rfl) (GR_cons_g rfl rfl rfl rfl rfl rfl rfl (V_loadN (vs := [_, _, _, _, _, _]) rfl rfl ag_23 sz_23 rfl (CellsAt.item rfl)) (GR_cons_g rfl rfl rfl rfl rfl rfl rfl (V_move rfl rfl) (GR_cons_g rfl rfl rfl rfl rfl rfl rfl (V_move rfl rfl) (GR_cons_g rfl rfl rfl rfl rfl rfl rfl (V_move rfl rfl) (GR_cons_g rfl rfl rfl rfl rfl rfl rfl (V_len rfl Try.underlying56 rfl) (GR_cons_g rfl rfl rfl rfl rfl rfl rfl (V_sub rfl rfl rfl (wrap_i64 (by omega))) (GR_cons_g rfl rfl rfl rfl rfl rfl rfl (V_sliceToL (hi := z.1.length - 1) rfl rfl rfl Try.underlying56 (by rw [sz_62]; rfl) (by omega) (by omega) hcap) (GR_cons_g rfl rfl rfl rfl rfl rfl rfl (V_isT (V_eql rfl rfl rfl) (refE_open he (by rw [List.length_take]; omega) hen.2.2)) (GR_cons_g rfl rfl rfl rfl rfl rfl rfl (V_pick_t rfl rfl rfl) (GR_cons rfl rfl rfl rfl (V_pick_f rfl rfl rfl) (GR_nil))))))))))))))))))))) ?_
              refine GT_st rfl rfl rfl rfl (V_pick_t rfl rfl rfl) ?_
              refine GT_st rfl rfl rfl rfl (V_assign rfl rfl) ?_
              refine GT_nil ?_
              refine GE_ret Try.func13 rfl (fun w hw => ⟨?_, hw.nil⟩)
              rfl
        · skip
          refine GT_skip rfl rfl rfl rfl rfl (by decide) rfl rfl ?_
          refine GT_skip rfl rfl rfl rfl rfl (by decide) rfl rfl ?_
          refine GT_st rfl rfl rfl rfl (V_pick_f rfl rfl rfl) ?_
          refine GT_nil ?_
          refine GE_cond_f rfl ?_
          refine GE_skip ?_
          refine GE_seq ?_
          refine GE_seq ?_
          refine GE_slots (L' := [(1, _), (3, _), (4, _), (5, _), (13, _), (14, _)]) ⟨rfl, rfl, rfl, rfl, rfl, rfl, trivial⟩ ?_
          refine GE_plain (.st 0 (.st 1 .nil)) rfl ?_
          refine GT_st rfl rfl rfl rfl (V_move rfl rfl) ?_
          refine GT_st rfl rfl rfl rfl (V_neq rfl rfl rfl) ?_
          refine GT_nil ?_
          first | refine GE_condNot rfl (fun h5 => ?_) (fun h5 => ?_) | refine GE_cond rfl (fun h5 => ?_) (fun h5 => ?_) | refine GE_condNotB rfl (fun h5 => ?_) (fun h5 => ?_) | refine GE_condB rfl (fun h5 => ?_) (fun h5 => ?_)
          · have hnil := hz.2.2 h5
            refine GE_seq ?_
            refine GE_slots (L' := [(13, _)]) ⟨rfl, trivial⟩ ?_
            refine GE_plain (.st 0 (.st 1 (.st 2 (.st 3 (.ld 4 [] (.st 5 (.st 6 .nil))))))) rfl ?_
            refine GT_st rfl rfl rfl rfl (V_move rfl rfl) ?_
            refine GT_st rfl rfl rfl rfl (V_len rfl Try.underlying56 rfl) ?_
            refine GT_st rfl rfl rfl rfl (V_isT (V_eql rfl rfl rfl) (by rw [hnil]; rfl)) ?_
            refine GT_st rfl rfl rfl rfl (V_move rfl rfl) ?_
            refine GT_call0_g rfl rfl rfl rfl rfl rfl rfl rfl rfl rfl rfl rn_16 (fun w hw => C_law05_Works) (GR_nil) ?_
            refine GT_st rfl rfl rfl rfl (V_pick_t rfl rfl rfl) ?_
            refine GT_st rfl rfl rfl rfl (V_assign rfl rfl) ?_
            refine GT_nil ?_
            refine GE_ret Try.func13 rfl (fun w hw => ⟨?_, hw.nil⟩)
            rfl
          · obtain ⟨hz0, ho, rad, hS⟩ := hz.2.1 (by omega); have hF := search_found he hS hz0; have hFl := hF.len; have hcap : z.1.length ≤ z.2.2.1 := (by obtain ⟨A', c', e, h⟩ := hz.1.form; cases e; exact h)
            refine GE_skip ?_
            refine GE_seq ?_
            refine GE_plain (.st 0 (.st 1 (.st 2 (.ld 3 [] (.st 4 (.st 5 (.st 6 (.st 7 (.st 8 (.st 9 (.st 10 .nil))))))))))) rfl ?_
            refine GT_st rfl rfl rfl rfl (V_loadN (vs := [_, _, _, _, _, _]) rfl rfl ag_23 sz_23 rfl (CellsAt.item rfl)) ?_
            refine GT_st rfl rfl rfl rfl (V_move rfl rfl) ?_
            refine GT_st rfl rfl rfl rfl (V_move rfl rfl) ?_
            refine GT_call0 rfl rfl rfl rfl rfl rfl rfl rfl rn_19 (fun w hw => C_lathe_CheckCut (hp.sh hw) (hr.sh hw) (by omega)) (GR_nil) ?_
            refine GT_st rfl rfl rfl rfl (V_move rfl rfl) ?_
            refine GT_st rfl rfl rfl rfl (V_extract rfl rfl rfl) ?_
            refine GT_st rfl rfl rfl rfl (V_extract rfl rfl rfl) ?_
            refine GT_st rfl rfl rfl rfl (V_extract rfl rfl rfl) ?_
            refine GT_st rfl rfl rfl rfl (V_assign rfl rfl) ?_
            refine GT_st rfl rfl rfl rfl (V_assign rfl rfl) ?_
            refine GT_st rfl rfl rfl rfl (V_assign rfl rfl) ?_
            refine GT_nil ?_
            refine GE_seq ?_
            refine GE_seq ?_
            refine GE_slots (L' := [(1, _), (4, _), (5, _), (13, _), (17, _)]) ⟨rfl, rfl, rfl, rfl, rfl, trivial⟩ ?_
            refine GE_plain (.st 0 (.st 1 (.st 2 (.st 3 (.st 4 (.st 5 (.st 6 (.st 7 (.st 8 (.st 9 (.st 10 (.st 11 (.st 12 (.st 13 (.st 14 (.st 15 (.ld 16 [] (.st 17 (.st 18 .nil))))))))))))))))))) rfl ?_
            refine GT_st rfl rfl rfl rfl (V_move rfl rfl) ?_
            refine GT_st rfl rfl rfl rfl (V_isF (V_eql rfl rfl rfl) (outer_no_cut he ho)) ?_
            refine GT_st rfl rfl rfl rfl (V_move rfl rfl) ?_
            refine GT_st_g rfl rfl rfl rfl rfl rfl rfl (V_move rfl rfl) ?_
            refine GT_st_g rfl rfl rfl rfl rfl rfl rfl (V_len rfl Try.underlying56 rfl) ?_
            refine GT_st_g rfl rfl rfl rfl rfl rfl rfl (V_isF (V_eql rfl rfl rfl) (by omega)) ?_
            refine GT_st rfl rfl rfl rfl (V_pick_f rfl rfl rfl) ?_
            refine GT_st rfl rfl rfl rfl (V_move rfl rfl) ?_
            refine GT_st_g rfl rfl rfl rfl rfl rfl rfl (V_move rfl rfl) ?_
            refine GT_st_g rfl rfl rfl rfl rfl rfl rfl (V_len rfl Try.underlying56 rfl) ?_
            refine GT_st_g rfl rfl rfl rfl rfl rfl rfl (V_isF (V_gtr rfl rfl rfl) (by omega)) ?_
            refine GT_st rfl rfl rfl rfl (V_pick_f rfl rfl rfl) ?_
            refine GT_st rfl rfl rfl rfl (V_move rfl rfl) ?_
            refine GT_st_g rfl rfl rfl rfl rfl rfl rfl (V_loadN (vs := [_, _, _, _, _, _]) rfl rfl ag_23 sz_23 rfl (CellsAt.item rfl)) ?_
            refine GT_st_g rfl rfl rfl rfl rfl rfl rfl (V_move rfl rfl) ?_
            refine GT_st_g rfl rfl rfl rfl rfl rfl rfl (V_move rfl rfl) ?_
            refine GT_call0_g rfl rfl rfl rfl rfl rfl rfl rfl rfl rfl rfl rn_35 (fun w hw => C_lathe_CheckRefusal (hp.sh hw) (hz.1.rdH eStp_len hw) (by omega)) (GR_nil) ?_
            refine GT_st_g rfl rfl rfl rfl rfl rfl rfl (V_isF (V_neq rfl rfl rfl) (fun h => h (refE_zero he hFl hF.right))) ?_
            refine GT_st rfl rfl rfl rfl (V_pick_f rfl rfl rfl) ?_
            refine GT_nil ?_
            refine GE_cond_f rfl ?_
            refine GE_skip ?_
            refine GE_seq ?_
            refine GE_seq ?_
            refine GE_slots (L' := [(1, _), (4, _), (5, _), (13, _)]) ⟨rfl, rfl, rfl, rfl, trivial⟩ ?_
            refine GE_plain (.st 0 (.st 1 (.st 2 (.st 3 (.st 4 .nil))))) rfl ?_
            refine GT_st rfl rfl rfl rfl (V_move rfl rfl) ?_
            refine GT_st rfl rfl rfl rfl (V_index (k := 0) rfl rfl rfl Try.underlying56 sz_62 rfl hz0 (hz.1.isSome (k := 0) hz0)) ?_
            first | refine GT_st rfl rfl rfl rfl (V_field rfl rfl fo_62_0) ?_ | refine GT_st rfl rfl rfl rfl (V_fieldA rfl rfl fo_62_0) ?_
            refine GT_st rfl rfl rfl rfl (V_load rfl rfl ag_3 (CellAt.own0 hz.1 eStp_len hz0 rfl)) ?_
            refine GT_st rfl rfl rfl rfl (V_neq rfl rfl rfl) ?_
            refine GT_nil ?_
            first | refine GE_condNot rfl (fun h6 => ?_) (fun h6 => ?_) | refine GE_cond rfl (fun h6 => ?_) (fun h6 => ?_) | refine GE_condNotB rfl (fun h6 => ?_) (fun h6 => ?_) | refine GE_condB rfl (fun h6 => ?_) (fun h6 => ?_)
            · obtain ⟨k, hk, hkl⟩ : ∃ k : Nat, x.tmod (z.1.length : Int) = k ∧ k < z.1.length := ⟨(x.tmod (z.1.length : Int)).toNat, by have := Int.tmod_nonneg (z.1.length : Int) hx.1; omega, by have := Int.tmod_lt_of_pos x (show (0 : Int) < z.1.length by omega); have := Int.tmod_nonneg (z.1.length : Int) hx.1; omega⟩
              refine GE_seq ?_
              refine GE_slots (L' := [(1, _), (4, _), (5, _), (13, _)]) ⟨rfl, rfl, rfl, rfl, trivial⟩ ?_
              refine GE_plain (.st 0 (.st 1 (.st 2 (.st 3 (.st 4 (.st 5 .nil)))))) rfl ?_
              refine GT_st rfl rfl rfl rfl (V_move rfl rfl) ?_
              refine GT_st rfl rfl rfl rfl (V_convII rfl rfl (by rw [Try.underlying5]; rfl) Try.underlying3 (wrap_i64 (by omega))) ?_
              refine GT_st rfl rfl rfl rfl (V_move rfl rfl) ?_
              refine GT_st rfl rfl rfl rfl (V_len rfl Try.underlying56 rfl) ?_
              refine GT_st rfl rfl rfl rfl (V_rem rfl rfl rfl (by omega)) ?_
              refine GT_st rfl rfl rfl rfl (V_assign rfl rfl) ?_
              refine GT_nil ?_
              refine GE_seq ?_
              refine GE_slots (L' := [(1, _), (5, _), (13, _), (18, _)]) ⟨rfl, rfl, rfl, rfl, trivial⟩ ?_
              refine GE_drawn (.st 1 (.st 2 (.st 3 (.st 5 (.st 6 (.st 7 (.ld 0 [1, 2, 3, 5, 6, 7] (.ld 4 [1, 2, 5, 6, 7] (.ld 8 [1, 2, 3, 5, 6] (.st 9 .nil)))))))))) [0, 4, 8] (by decide +kernel) ?_
              refine GT_st rfl rfl rfl rfl (V_move rfl rfl) ?_
              refine GT_st rfl rfl rfl rfl (V_move rfl rfl) ?_
              refine GT_st rfl rfl rfl rfl (V_sliceFromL (lo := k) rfl rfl rfl Try.underlying56 sz_62 hk (by omega)) ?_
              refine GT_st rfl rfl rfl rfl (V_move rfl rfl) ?_
              refine GT_st rfl rfl rfl rfl (V_move rfl rfl) ?_
              refine GT_st rfl rfl rfl rfl (V_sliceToL (hi := k) rfl rfl rfl Try.underlying56 (by rw [sz_62]; rfl) hk (by omega) hcap) ?_
              refine GT_buildSlice (z := []) rfl rfl rfl rfl rfl Try.underlying56 zc_62 sz_62 (by decide) rfl rfl (fun _ => GR_cons rfl rfl rfl rfl (V_move rfl rfl) (GR_cons rfl rfl rfl rfl (V_move rfl rfl) (GR_cons rfl rfl rfl rfl (V_sliceFromL (lo := k) rfl rfl rfl Try.underlying56 sz_62 hk (by omega)) (GR_cons rfl rfl rfl rfl (V_move rfl rfl) (GR_cons rfl rfl rfl rfl (V_move rfl rfl) (GR_cons rfl rfl rfl rfl (V_sliceToL (hi := k) rfl rfl rfl Try.underlying56 (by rw [sz_62]; rfl) hk (by omega) hcap) (GR_nil))))))) (fun b113 => ?_)
              refine GT_append (enc := eStp) (l := []) (m := z.1.drop k) rfl rfl rfl rfl rfl rfl rfl (show Own 2 62 eStp [] (.slice (some ⟨b113, 0, none⟩) 0 0) [(b113, blk [] 62)] from Own.lit rfl rfl (by decide)) (fun w m => (hz.1.rdH eStp_len m).drop k hcap) Try.underlying56 zc_62 sz_62 ⟨rfl, by decide⟩ by_62 ⟨by simp only [List.length_nil, List.length_drop]; omega, by simp only [List.length_nil, List.length_drop]; omega⟩ eStp_len eStp_one (fun _ _ _ _ => GR_cons rfl rfl rfl rfl (V_move rfl rfl) (GR_cons rfl rfl rfl rfl (V_move rfl rfl) (GR_cons rfl rfl rfl rfl (V_move rfl rfl) (GR_cons rfl rfl rfl rfl (V_move rfl rfl) (GR_cons rfl rfl rfl rfl (V_sliceToL (hi := k) rfl rfl rfl Try.underlying56 (by rw [sz_62]; rfl) hk (by omega) hcap) (GR_nil)))))) (fun A7 c7 I7 hO7 => ?_)
              rw [List.nil_append] at hO7 ⊢
              refine GT_append (enc := eStp) (l := z.1.drop k) (m := z.1.take k) rfl rfl rfl rfl rfl rfl rfl hO7 (fun w m => (hz.1.rdH eStp_len m).take k) Try.underlying56 zc_62 sz_62 ⟨rfl, by decide⟩ by_62 ⟨by simp only [List.length_take, List.length_drop]; omega, by simp only [List.length_take, List.length_drop]; omega⟩ eStp_len eStp_one (fun _ _ _ _ => GR_cons rfl rfl rfl rfl (V_move rfl rfl) (GR_cons rfl rfl rfl rfl (V_move rfl rfl) (GR_cons rfl rfl rfl rfl (V_sliceFromL (lo := k) rfl rfl rfl Try.underlying56 sz_62 hk (by omega)) (GR_cons rfl rfl rfl rfl (V_move rfl rfl) (GR_cons rfl rfl rfl rfl (V_move rfl rfl) (GR_nil)))))) (fun A8 c8 I8 hO8 => ?_)
              have hl8 : (z.1.drop k ++ z.1.take k).length = z.1.length := (by simp only [List.length_append, List.length_take, List.length_drop]; omega)
              refine GT_st rfl rfl rfl rfl (V_assign rfl rfl) ?_
              refine GT_nil ?_
              refine GE_seq ?_
              refine GE_slots (L' := [(1, _), (5, _), (19, _)]) ⟨rfl, rfl, rfl, trivial⟩ ?_
              refine GE_plain (.st 0 (.st 1 (.st 2 (.ld 3 [] (.st 4 (.st 5 (.ld 6 [] (.st 7 (.st 8 .nil))))))))) rfl ?_
              refine GT_st rfl rfl rfl rfl (V_loadN (vs := [_, _, _, _, _, _]) rfl rfl ag_23 sz_23 rfl (CellsAt.item rfl)) ?_
              refine GT_st rfl rfl rfl rfl (V_move rfl rfl) ?_
              refine GT_st rfl rfl rfl rfl (V_move rfl rfl) ?_
              refine GT_call0 rfl rfl rfl rfl rfl rfl rfl rfl rn_35 (fun w hw => C_lathe_CheckRefusal (hp.sh hw) (hO8.rdH eStp_len hw) (by omega)) (GR_nil) ?_
              refine GT_st rfl rfl rfl rfl (V_isT (V_eql rfl rfl rfl) (refE_zero he (by omega) (hF.turned h6 k (by omega)))) ?_
              refine GT_st rfl rfl rfl rfl (V_move rfl rfl) ?_
              refine GT_call0_g rfl rfl rfl rfl rfl rfl rfl rfl rfl rfl rfl rn_16 (fun w hw => C_law05_Works) (GR_nil) ?_
              refine GT_st rfl rfl rfl rfl (V_pick_t rfl rfl rfl) ?_
              refine GT_st rfl rfl rfl rfl (V_assign rfl rfl) ?_
              refine GT_nil ?_
              refine GE_ret Try.func13 rfl (fun w hw => ⟨?_, hw.nil⟩)
              rfl
            · skip
              refine GE_skip ?_
              refine GE_seq ?_
              refine GE_slots (L' := [(1, _), (5, _), (13, _)]) ⟨rfl, rfl, rfl, trivial⟩ ?_
              have hen := hF.ends (by omega)
              refine GE_drawn (.st 0 (.st 1 (.st 2 (.st 3 (.st 4 (.st 5 (.st 6 (.st 7 (.ld 8 [0, 1, 2, 6] (.st 9 (.st 10 (.st 11 (.st 12 (.st 13 (.st 14 (.st 15 (.st 16 (.st 17 (.ld 18 [0, 1, 2, 3, 4, 5, 6, 7, 9, 13, 14, 15, 16] (.st 19 (.st 20 (.st 21 (.st 22 (.ld 23 [0, 1, 2, 3, 4, 5, 6, 7, 9, 10, 11, 12, 13, 14, 15, 16, 17, 19, 20, 21] (.st 24 (.st 25 .nil)))))))))))))))))))))))))) [8, 18, 23] (by decide +kernel) ?_
              refine GT_st rfl rfl rfl rfl (V_move rfl rfl) ?_
              refine GT_st rfl rfl rfl rfl (V_len rfl Try.underlying56 rfl) ?_
              refine GT_st rfl rfl rfl rfl (V_isF (V_lss rfl rfl rfl) (by omega)) ?_
              refine GT_st rfl rfl rfl rfl (V_move rfl rfl) ?_
              refine GT_st_g rfl rfl rfl rfl rfl rfl rfl (V_loadN (vs := [_, _, _, _, _, _]) rfl rfl ag_23 sz_23 rfl (CellsAt.item rfl)) ?_
              refine GT_st_g rfl rfl rfl rfl rfl rfl rfl (V_move rfl rfl) ?_
              refine GT_st_g rfl rfl rfl rfl rfl rfl rfl (V_move rfl rfl) ?_
              refine GT_st_g rfl rfl rfl rfl rfl rfl rfl (V_sliceFromL (lo := 1) rfl rfl rfl Try.underlying56 sz_62 rfl (by omega)) ?_
              refine GT_call0_g rfl rfl rfl rfl rfl rfl rfl rfl rfl rfl rfl rn_35 (fun w hw => C_lathe_CheckRefusal (hp.sh hw) ((hz.1.rdH eStp_len hw).drop 1 hcap) (by rw [List.length_drop]; omega)) (GR_cons rfl rfl rfl rfl (V_move rfl rfl) (GR_cons rfl rfl rfl rfl (V_len rfl Try.underlying56 rfl) (GR_cons rfl rfl rfl rfl (V_isF (V_lss rfl rfl rfl) (by omega)) (GR_cons_g rfl rfl rfl rfl rfl rfl rfl (V_move rfl rfl) (GR_nil))))) ?_
              refine GT_st_g rfl rfl rfl rfl rfl rfl rfl (V_isT (V_eql rfl rfl rfl) (refE_open he (by rw [List.length_drop]; omega) hen.2.1)) ?_
              refine GT_st_g rfl rfl rfl rfl rfl rfl rfl (V_move rfl rfl) ?_
              refine GT_st_g rfl rfl rfl rfl rfl rfl rfl (V_loadN (vs := [_, _, _, _, _, _]) rfl rfl ag_23 sz_23 rfl (CellsAt.item rfl)) ?_
              refine GT_st_g rfl rfl rfl rfl rfl rfl rfl (V_move rfl rfl) ?_
              refine GT_st_g rfl rfl rfl rfl rfl rfl rfl (V_move rfl rfl) ?_
              refine GT_st_g rfl rfl rfl rfl rfl rfl rfl (V_move rfl rfl) ?_
              refine GT_st_g rfl rfl rfl rfl rfl rfl rfl (V_len rfl Try.underlying56 rfl) ?_
              refine GT_st_g rfl rfl rfl rfl rfl rfl rfl (V_sub rfl rfl rfl (wrap_i64 (by omega))) ?_
              refine GT_st_g rfl rfl rfl rfl rfl rfl rfl (V_sliceToL (hi := z.1.length - 1) rfl rfl rfl Try.underlying56 (by rw [sz_62]; rfl) (by omega) (by omega) hcap) ?_
              refine GT_call0_g rfl rfl rfl rfl rfl rfl rfl rfl rfl rfl rfl rn_35 (fun w hw => C_lathe_CheckRefusal (hp.sh hw) ((hz.1.rdH eStp_len hw).take (z.1.length - 1)) (by rw [List.length_take]; omega)) (GR_cons rfl rfl rfl rfl (V_move rfl rfl) (GR_cons rfl rfl rfl rfl (V_len rfl Try.underlying56 rfl) (GR_cons rfl rfl rfl rfl (V_isF (V_lss rfl rfl rfl) (by omega)) (GR_cons rfl rfl rfl rfl (V_move rfl rfl) (GR_cons_g rfl rfl rfl rfl rfl rfl rfl (V_loadN (vs := [_, _, _, _, _, _]) rfl rfl ag_23 sz_23 rfl (CellsAt.item rfl)) (GR_cons_g rfl rfl rfl rfl rfl rfl rfl (V_move rfl rfl) (GR_cons_g rfl rfl rfl rfl rfl rfl rfl (V_move rfl rfl) (GR_cons_g rfl rfl rfl rfl rfl rfl rfl (V_sliceFromL (lo := 1) rfl rfl rfl Try.underlying56 sz_62 rfl (by omega)) (GR_cons_g rfl rfl rfl rfl rfl rfl rfl (V_isT (V_eql rfl rfl rfl) (refE_open he (by rw [List.length_drop]; omega) hen.2.1)) (GR_cons_g rfl rfl rfl rfl rfl rfl rfl (V_move rfl rfl) (GR_cons_g rfl rfl rfl rfl rfl rfl rfl (V_move rfl rfl) (GR_cons_g rfl rfl rfl rfl rfl rfl rfl (V_len rfl Try.underlying56 rfl) (GR_cons_g rfl rfl rfl rfl rfl rfl rfl (V_sub rfl rfl rfl (wrap_i64 (by omega))) (GR_nil)))))))))))))) ?_
              refine GT_st_g rfl rfl rfl rfl rfl rfl rfl (V_isT (V_eql rfl rfl rfl) (refE_open he (by rw [List.length_take]; omega) hen.2.2)) ?_
              refine GT_st_g rfl rfl rfl rfl rfl rfl rfl (V_pick_t rfl rfl rfl) ?_
              refine GT_st rfl rfl rfl rfl (V_pick_f rfl rfl rfl) ?_
              refine GT_st rfl rfl rfl rfl (V_move rfl rfl) ?_
              refine GT_call0_g rfl rfl rfl rfl rfl rfl rfl rfl rfl rfl rfl rn_16 (fun w hw => C_law05_Works) (GR_cons rfl rfl rfl rfl (V_move rfl rfl) (GR_cons rfl rfl rfl rfl (V_len rfl Try.underlying56 rfl) (GR_cons rfl rfl rfl rfl (V_isF (V_lss rfl rfl rfl) (by omega)) (GR_cons rfl rfl rfl rfl (V_move rfl rfl) (GR_cons_g rfl rfl rfl rfl rfl rfl rfl (V_loadN (vs := [_, _, _, _, _, _]) rfl rfl ag_23 sz_23 rfl (CellsAt.item rfl)) (GR_cons_g rfl rfl rfl rfl rfl rfl rfl (V_move rfl rfl) (GR_cons_g rfl rfl rfl rfl rfl rfl rfl (V_move rfl rfl) (GR_cons_g rfl rfl rfl rfl rfl rfl rfl (V_sliceFromL (lo := 1) rfl rfl rfl Try.underlying56 sz_62 rfl (by omega)) (GR_cons_g rfl rfl rfl rfl rfl rfl rfl (V_isT (V_eql rfl rfl rfl) (refE_open he (by rw [List.length_drop]; omega) hen.2.1)) (GR_cons_g rfl rfl rfl rfl rfl rfl rfl (V_move rfl rfl) (GR_cons_g rfl rfl rfl rfl rfl rfl rfl (V_loadN (vs := [_, _, _, _, _, _]) rfl rfl ag_23 sz_23 rfl (CellsAt.item rfl)) (GR_cons_g rfl rfl rfl rfl rfl rfl rfl (V_move rfl rfl) (GR_cons_g rfl rfl rfl rfl rfl rfl rfl (V_move rfl rfl) (GR_cons_g rfl rfl rfl rfl rfl rfl rfl (V_move rfl rfl) (GR_cons_g rfl rfl rfl rfl rfl rfl rfl (V_len rfl Try.underlying56 rfl) (GR_cons_g rfl rfl rfl rfl rfl rfl rfl (V_sub rfl rfl rfl (wrap_i64 (by omega))) (GR_cons_g rfl rfl rfl rfl rfl rfl rfl (V_sliceToL (hi := z.1.length - 1) rfl rfl rfl Try.underlying56 (by rw [sz_62]; rfl) (by omega) (by omega) hcap) (GR_cons_g rfl rfl rfl rfl rfl rfl rfl (V_isT (V_eql rfl rfl rfl) (refE_open he (by rw [List.length_take]; omega) hen.2.2)) (GR_cons_g rfl rfl rfl rfl rfl rfl rfl (V_pick_t rfl rfl rfl) (GR_cons rfl rfl rfl rfl (V_pick_f rfl rfl rfl) (GR_nil))))))))))))))))))))) ?_
              refine GT_st rfl rfl rfl rfl (V_pick_t rfl rfl rfl) ?_
              refine GT_st rfl rfl rfl rfl (V_assign rfl rfl) ?_
              refine GT_nil ?_
              refine GE_ret Try.func13 rfl (fun w hw => ⟨?_, hw.nil⟩)
              rfl
end Go.Proofs.Ytacmnmcaeflflaa
