/- LatheOutermost, walked. -/
import Derived.Test.YtacmnmcaeflflaaLaD
import Derived.Test.YtacmnmcaeflflaaLaK
namespace Go.Proofs.Ytacmnmcaeflflaa
open Go.Sx Go.Proofs

theorem L_LatheOutermost {b : Blank} {A A2 : Option Addr} {l : List Pt} {r : List Int} {c c2 : Nat} {w : World} (hp : RdL w 2 ePt A l) (_ : l.length ≤ maxLen ∧ ∀ x ∈ l, PtWf x) (hr : RdL w 1 eI A2 r) (_ : r.length ≤ maxLen ∧ ∀ x ∈ r, I64 x) :
    Con0 Try.prog 4 [b.val, .slice A l.length c, .slice A2 r.length c2] w (.bool true) := by
  refine Ret_of (vs := [_, _, _]) hm none' Try.func4 rfl Try.ntmps4 rfl ?_
  dsimp only [slotsOf]
  refine GE_seq ?_
  refine GE_plain (.ld 0 [] (.st 1 .nil)) rfl ?_
  refine GT_box (z := [_, _, _, _, _, _]) rfl rfl rfl rfl rfl rfl rfl (fun _ => GR_nil) (fun b3 => ?_)
  refine GT_st rfl rfl rfl rfl (V_assign rfl rfl) ?_
  refine GT_nil ?_
  refine GE_seq ?_
  refine GE_seq ?_
  refine GE_plain (.st 0 (.st 1 (.ld 2 [] (.st 3 (.st 4 (.st 5 (.st 6 (.st 7 (.st 8 .nil))))))))) rfl ?_
  refine GT_st rfl rfl rfl rfl (V_loadN (vs := [_, _, _, _, _, _]) rfl rfl ag_23 sz_23 rfl (CellsAt.item rfl)) ?_
  refine GT_st rfl rfl rfl rfl (V_move rfl rfl) ?_
  refine GT_call0 rfl rfl rfl rfl rfl rfl rfl rfl rn_24 (fun w hw => C_law05_valid (hp.sh hw)) (GR_nil) ?_
  first | refine GT_st rfl rfl rfl rfl (V_not rfl rfl) ?_ | refine GT_st rfl rfl rfl rfl (V_notB rfl rfl) ?_
  refine GT_st rfl rfl rfl rfl (V_move rfl rfl) ?_
  first | refine GT_splitNot (d := 20) rfl (fun h1 => ?_) (fun h1 => ?_) | refine GT_split (d := 20) rfl (fun h1 => ?_) (fun h1 => ?_) | refine GT_splitNotB (d := 20) rfl (fun h1 => ?_) (fun h1 => ?_) | refine GT_splitB (d := 20) rfl (fun h1 => ?_) (fun h1 => ?_)
  · skip
    refine GT_skip rfl rfl rfl rfl rfl (by decide) rfl rfl ?_
    refine GT_skip rfl rfl rfl rfl rfl (by decide) rfl rfl ?_
    refine GT_skip rfl rfl rfl rfl rfl (by decide) rfl rfl ?_
    refine GT_st rfl rfl rfl rfl (V_pick_t rfl rfl rfl) ?_
    refine GT_nil ?_
    refine GE_cond_t rfl ?_
    refine GE_seq ?_
    refine GE_slots (L' := []) trivial ?_
    refine GE_plain (.ld 0 [] (.st 1 .nil)) rfl ?_
    refine GT_call0 rfl rfl rfl rfl rfl rfl rfl rfl rn_16 (fun w hw => C_law05_Works) (GR_nil) ?_
    refine GT_st rfl rfl rfl rfl (V_assign rfl rfl) ?_
    refine GT_nil ?_
    refine GE_ret Try.func4 rfl (fun w hw => ⟨?_, hw.nil⟩)
    rfl
  · obtain ⟨hl, he⟩ := of_valid h1
    refine GT_st_g rfl rfl rfl rfl rfl rfl rfl (V_move rfl rfl) ?_
    refine GT_st_g rfl rfl rfl rfl rfl rfl rfl (V_len rfl Try.underlying25 rfl) ?_
    refine GT_st_g rfl rfl rfl rfl rfl rfl rfl (V_gtr rfl rfl rfl) ?_
    refine GT_st rfl rfl rfl rfl (V_pick_f rfl rfl rfl) ?_
    refine GT_nil ?_
    first | refine GE_condNot rfl (fun h2 => ?_) (fun h2 => ?_) | refine GE_cond rfl (fun h2 => ?_) (fun h2 => ?_) | refine GE_condNotB rfl (fun h2 => ?_) (fun h2 => ?_) | refine GE_condB rfl (fun h2 => ?_) (fun h2 => ?_)
    · skip
      refine GE_seq ?_
      refine GE_slots (L' := []) trivial ?_
      refine GE_plain (.ld 0 [] (.st 1 .nil)) rfl ?_
      refine GT_call0 rfl rfl rfl rfl rfl rfl rfl rfl rn_16 (fun w hw => C_law05_Works) (GR_nil) ?_
      refine GT_st rfl rfl rfl rfl (V_assign rfl rfl) ?_
      refine GT_nil ?_
      refine GE_ret Try.func4 rfl (fun w hw => ⟨?_, hw.nil⟩)
      rfl
    · have hlr : r.length ≤ 100 := (by omega)
      refine GE_skip ?_
      refine GE_seq ?_
      refine GE_slots (L' := [(1, _), (2, _), (3, _)]) ⟨rfl, rfl, rfl, trivial⟩ ?_
      refine GE_plain (.st 0 (.st 1 (.ld 2 [] (.st 3 (.st 4 (.st 5 (.st 6 (.st 7 .nil)))))))) rfl ?_
      refine GT_st rfl rfl rfl rfl (V_loadN (vs := [_, _, _, _, _, _]) rfl rfl ag_23 sz_23 rfl (CellsAt.item rfl)) ?_
      refine GT_st rfl rfl rfl rfl (V_move rfl rfl) ?_
      refine GT_call rfl rfl rfl rfl rfl rfl rfl rfl rn_17 (fun w hw => C_lathe_Outermost (hp.sh hw)) (fun _ _ => GR_nil) (fun y hy => ?_)
      refine GT_st rfl rfl rfl rfl (V_move rfl rfl) ?_
      refine GT_st rfl rfl rfl rfl (V_extract rfl rfl rfl) ?_
      refine GT_st rfl rfl rfl rfl (V_extract rfl rfl rfl) ?_
      refine GT_st rfl rfl rfl rfl (V_assign rfl rfl) ?_
      refine GT_st rfl rfl rfl rfl (V_assign rfl rfl) ?_
      refine GT_nil ?_
      refine GE_seq ?_
      refine GE_slots (L' := [(1, _), (2, _), (3, _), (7, _), (8, _)]) ⟨rfl, rfl, rfl, rfl, rfl, trivial⟩ ?_
      refine GE_plain (.st 0 (.st 1 (.st 2 (.ld 3 [] (.st 4 (.st 5 (.st 6 (.st 7 (.st 8 (.st 9 (.st 10 .nil))))))))))) rfl ?_
      refine GT_st rfl rfl rfl rfl (V_loadN (vs := [_, _, _, _, _, _]) rfl rfl ag_23 sz_23 rfl (CellsAt.item rfl)) ?_
      refine GT_st rfl rfl rfl rfl (V_move rfl rfl) ?_
      refine GT_st rfl rfl rfl rfl (V_move rfl rfl) ?_
      refine GT_call0 rfl rfl rfl rfl rfl rfl rfl rfl rn_19 (fun w hw => C_lathe_CheckCut (hp.sh hw) (hr.sh hw) (by omega)) (GR_nil) ?_
      refine GT_st rfl rfl rfl rfl (V_move rfl rfl) ?_
      refine GT_st rfl rfl rfl rfl (V_extract rfl rfl rfl) ?_
      refine GT_st rfl rfl rfl rfl (V_extract rfl rfl rfl) ?_
      refine GT_st rfl rfl rfl rfl (V_extract rfl rfl rfl) ?_
      refine GT_st rfl rfl rfl rfl (V_assign rfl rfl) ?_
      refine GT_st rfl rfl rfl rfl (V_assign rfl rfl) ?_
      refine GT_st rfl rfl rfl rfl (V_assign rfl rfl) ?_
      refine GT_nil ?_
      refine GE_seq ?_
      refine GE_seq ?_
      refine GE_slots (L' := [(1, _), (2, _), (3, _), (7, _), (8, _), (11, _)]) ⟨rfl, rfl, rfl, rfl, rfl, rfl, trivial⟩ ?_
      refine GE_plain (.st 0 (.st 1 .nil)) rfl ?_
      refine GT_st rfl rfl rfl rfl (V_move rfl rfl) ?_
      refine GT_st rfl rfl rfl rfl (V_neq rfl rfl rfl) ?_
      refine GT_nil ?_
      first | refine GE_condNot rfl (fun h3 => ?_) (fun h3 => ?_) | refine GE_cond rfl (fun h3 => ?_) (fun h3 => ?_) | refine GE_condNotB rfl (fun h3 => ?_) (fun h3 => ?_) | refine GE_condB rfl (fun h3 => ?_) (fun h3 => ?_)
      · obtain ⟨ho, e1, e2⟩ := outE_ne he h3
        refine GE_seq ?_
        refine GE_slots (L' := [(7, _), (8, _), (11, _)]) ⟨rfl, rfl, rfl, trivial⟩ ?_
        refine GE_plain (.st 0 (.st 1 (.st 2 (.st 3 (.st 4 (.st 5 (.st 6 (.st 7 (.st 8 (.st 9 (.st 10 (.st 11 (.ld 12 [] (.st 13 (.st 14 .nil))))))))))))))) rfl ?_
        refine GT_st rfl rfl rfl rfl (V_move rfl rfl) ?_
        refine GT_st rfl rfl rfl rfl (V_isT (V_eql rfl rfl rfl) e1) ?_
        refine GT_st rfl rfl rfl rfl (V_move rfl rfl) ?_
        refine GT_st_g rfl rfl rfl rfl rfl rfl rfl (V_move rfl rfl) ?_
        refine GT_st_g rfl rfl rfl rfl rfl rfl rfl (V_len rfl Try.underlying25 rfl) ?_
        refine GT_st_g rfl rfl rfl rfl rfl rfl rfl (V_isT (V_eql rfl rfl rfl) (by rw [e2]; rfl)) ?_
        refine GT_st rfl rfl rfl rfl (V_pick_t rfl rfl rfl) ?_
        refine GT_st rfl rfl rfl rfl (V_move rfl rfl) ?_
        refine GT_st_g rfl rfl rfl rfl rfl rfl rfl (V_move rfl rfl) ?_
        refine GT_st_g rfl rfl rfl rfl rfl rfl rfl (V_isT (V_neq rfl rfl rfl) (outer_no_cut he ho)) ?_
        refine GT_st rfl rfl rfl rfl (V_pick_t rfl rfl rfl) ?_
        refine GT_st rfl rfl rfl rfl (V_move rfl rfl) ?_
        refine GT_call0_g rfl rfl rfl rfl rfl rfl rfl rfl rfl rfl rfl rn_16 (fun w hw => C_law05_Works) (GR_nil) ?_
        refine GT_st rfl rfl rfl rfl (V_pick_t rfl rfl rfl) ?_
        refine GT_st rfl rfl rfl rfl (V_assign rfl rfl) ?_
        refine GT_nil ?_
        refine GE_ret Try.func4 rfl (fun w hw => ⟨?_, hw.nil⟩)
        rfl
      · have ho := outE_eq he h3; obtain ⟨e3, e4⟩ := outer_cutRes he ho
        refine GE_skip ?_
        refine GE_seq ?_
        refine GE_plain (.st 0 (.st 1 (.st 2 (.ld 3 [] (.st 4 (.st 5 (.st 6 (.st 7 (.st 8 (.st 9 (.st 10 .nil))))))))))) rfl ?_
        refine GT_st rfl rfl rfl rfl (V_loadN (vs := [_, _, _, _, _, _]) rfl rfl ag_23 sz_23 rfl (CellsAt.item rfl)) ?_
        refine GT_st rfl rfl rfl rfl (V_move rfl rfl) ?_
        refine GT_st rfl rfl rfl rfl (V_move rfl rfl) ?_
        refine GT_call0 rfl rfl rfl rfl rfl rfl rfl rfl rn_19 (fun w hw => C_lathe_CheckCut (hp.sh hw) (hy.rdH eI_len hw) outR_len) (GR_nil) ?_
        refine GT_st rfl rfl rfl rfl (V_move rfl rfl) ?_
        refine GT_st rfl rfl rfl rfl (V_extract rfl rfl rfl) ?_
        refine GT_st rfl rfl rfl rfl (V_extract rfl rfl rfl) ?_
        refine GT_st rfl rfl rfl rfl (V_extract rfl rfl rfl) ?_
        refine GT_st rfl rfl rfl rfl (V_assign rfl rfl) ?_
        refine GT_st rfl rfl rfl rfl (V_assign rfl rfl) ?_
        refine GT_st rfl rfl rfl rfl (V_assign rfl rfl) ?_
        refine GT_nil ?_
        refine GE_seq ?_
        refine GE_seq ?_
        refine GE_slots (L' := [(1, _), (2, _), (7, _), (11, _), (14, _)]) ⟨rfl, rfl, rfl, rfl, rfl, trivial⟩ ?_
        refine GE_plain (.st 0 (.st 1 (.st 2 (.st 3 (.st 4 (.st 5 (.st 6 (.st 7 (.st 8 .nil))))))))) rfl ?_
        refine GT_st rfl rfl rfl rfl (V_move rfl rfl) ?_
        refine GT_st rfl rfl rfl rfl (V_isF (V_neq rfl rfl rfl) (fun h => h e4)) ?_
        refine GT_st rfl rfl rfl rfl (V_move rfl rfl) ?_
        refine GT_st_g rfl rfl rfl rfl rfl rfl rfl (V_move rfl rfl) ?_
        refine GT_st_g rfl rfl rfl rfl rfl rfl rfl (V_len rfl Try.underlying25 rfl) ?_
        refine GT_st_g rfl rfl rfl rfl rfl rfl rfl (V_move rfl rfl) ?_
        refine GT_st_g rfl rfl rfl rfl rfl rfl rfl (V_len rfl Try.underlying24 rfl) ?_
        refine GT_st_g rfl rfl rfl rfl rfl rfl rfl (V_isF (V_neq rfl rfl rfl) (fun h => h (by rw [e3]))) ?_
        refine GT_st rfl rfl rfl rfl (V_pick_f rfl rfl rfl) ?_
        refine GT_nil ?_
        refine GE_cond_f rfl ?_
        refine GE_skip ?_
        refine GE_seq ?_
        refine GE_seq ?_
        refine GE_slots (L' := [(1, _), (2, _), (7, _), (11, _)]) ⟨rfl, rfl, rfl, rfl, trivial⟩ ?_
        refine GE_plain (.st 0 (.st 1 .nil)) rfl ?_
        refine GT_st rfl rfl rfl rfl (V_move rfl rfl) ?_
        refine GT_st rfl rfl rfl rfl (V_eql rfl rfl rfl) ?_
        refine GT_nil ?_
        first | refine GE_condNot rfl (fun hz => ?_) (fun hz => ?_) | refine GE_cond rfl (fun hz => ?_) (fun hz => ?_) | refine GE_condNotB rfl (fun hz => ?_) (fun hz => ?_) | refine GE_condB rfl (fun hz => ?_) (fun hz => ?_)
        · obtain ⟨hrl, hk⟩ := (cutRes_zero he).1 hz; have hab := outer_above he ho hz
          refine GE_seq ?_
          refine GE_seq ?_
          refine GE_plain (.st 0 (.st 1 (.st 2 (.st 3 (.st 4 .nil))))) rfl ?_
          refine GT_st rfl rfl rfl rfl (V_move rfl rfl) ?_
          refine GT_st rfl rfl rfl rfl (V_len rfl Try.underlying25 rfl) ?_
          refine GT_st rfl rfl rfl rfl (V_move rfl rfl) ?_
          refine GT_st rfl rfl rfl rfl (V_len rfl Try.underlying24 rfl) ?_
          refine GT_st rfl rfl rfl rfl (V_isF (V_neq rfl rfl rfl) (fun h => h (by rw [hrl]))) ?_
          refine GT_nil ?_
          refine GE_cond_f rfl ?_
          refine GE_skip ?_
          refine GE_seq ?_
          refine GE_slots (L' := [(2, _), (7, _)]) ⟨rfl, rfl, trivial⟩ ?_
          refine GE_plain (.st 0 .nil) rfl ?_
          refine GT_st rfl rfl rfl rfl (V_assign rfl rfl) ?_
          refine GT_nil ?_
          refine GE_block ?_
          refine GE_to (GE_loop (ι := Nat) (fun k => r.length - k) (fun k => [(2, .slice A2 r.length c2), (7, .slice y.1 (outR b l).length y.2.1), (15, I k)]) (fun k => y.2.2) (fun k => k ≤ r.length) ?_ 0 ?_) ⟨rfl, rfl, rfl, trivial⟩ (HS.last)
          · intro k hk ih
            refine GE_seq ?_
            refine GE_seq ?_
            refine GE_plain (.st 0 (.st 1 (.st 2 (.st 3 .nil)))) rfl ?_
            refine GT_st rfl rfl rfl rfl (V_move rfl rfl) ?_
            refine GT_st rfl rfl rfl rfl (V_move rfl rfl) ?_
            refine GT_st rfl rfl rfl rfl (V_len rfl Try.underlying25 rfl) ?_
            refine GT_st rfl rfl rfl rfl (V_lss rfl rfl rfl) ?_
            refine GT_nil ?_
            first | refine GE_condNot rfl (fun h4 => ?_) (fun h4 => ?_) | refine GE_cond rfl (fun h4 => ?_) (fun h4 => ?_) | refine GE_condNotB rfl (fun h4 => ?_) (fun h4 => ?_) | refine GE_condB rfl (fun h4 => ?_) (fun h4 => ?_)
            · have hlt : k < r.length := (by omega); have hab1 := hab k (by omega)
              refine GE_skip ?_
              refine GE_seq ?_
              refine GE_block ?_
              refine GE_seq ?_
              refine GE_slots (L' := [(2, _), (7, _), (15, _)]) ⟨rfl, rfl, rfl, trivial⟩ ?_
              refine GE_drawn (.st 0 (.st 1 (.st 2 (.st 3 (.st 4 (.st 5 (.st 6 (.st 7 (.st 8 .nil))))))))) [] (by decide +kernel) ?_
              refine GT_st rfl rfl rfl rfl (V_move rfl rfl) ?_
              refine GT_st rfl rfl rfl rfl (V_move rfl rfl) ?_
              refine GT_st rfl rfl rfl rfl (V_index rfl rfl rfl Try.underlying25 sz_2 rfl hlt (hr.isSome hlt)) ?_
              refine GT_st rfl rfl rfl rfl (V_load rfl rfl ag_2 (hr.at0 noM hlt rfl)) ?_
              refine GT_st rfl rfl rfl rfl (V_move rfl rfl) ?_
              refine GT_st rfl rfl rfl rfl (V_move rfl rfl) ?_
              refine GT_st rfl rfl rfl rfl (V_index rfl rfl rfl Try.underlying25 sz_2 rfl (by omega) (hy.isSome (k := k) (by omega))) ?_
              refine GT_st rfl rfl rfl rfl (V_load rfl rfl ag_2 (CellAt.own0 hy eI_len (by omega) rfl)) ?_
              refine GT_st rfl rfl rfl rfl (V_isF (V_gtr rfl rfl rfl) (by omega)) ?_
              refine GT_nil ?_
              refine GE_cond_f rfl ?_
              refine GE_skip ?_
              refine GE_inBlock ?_
              refine GE_slots (L' := [(2, _), (7, _), (15, _)]) ⟨rfl, rfl, rfl, trivial⟩ ?_
              refine GE_plain (.st 0 (.st 1 (.ld 2 [] .nil))) rfl ?_
              refine GT_st rfl rfl rfl rfl (V_move rfl rfl) ?_
              refine GT_st rfl rfl rfl rfl (V_add rfl rfl rfl (wrap_i64 (by omega))) ?_
              refine GT_ldv rfl rfl rfl rfl rfl (V_assign rfl rfl) (GR_nil) ?_
              refine GT_nil ?_
              exact GE_to (ih (k + 1) (by omega) (by omega)) ⟨rfl, rfl, rfl, trivial⟩ HS.last
            · skip
              refine GE_exit rfl ?_
              refine GE_seq ?_
              refine GE_slots (L' := []) trivial ?_
              refine GE_plain (.ld 0 [] (.st 1 .nil)) rfl ?_
              refine GT_call0 rfl rfl rfl rfl rfl rfl rfl rfl rn_16 (fun w hw => C_law05_Works) (GR_nil) ?_
              refine GT_st rfl rfl rfl rfl (V_assign rfl rfl) ?_
              refine GT_nil ?_
              refine GE_ret Try.func4 rfl (fun w hw => ⟨?_, hw.nil⟩)
              rfl
          · exact Nat.zero_le _
        · skip
          refine GE_skip ?_
          refine GE_seq ?_
          refine GE_slots (L' := []) trivial ?_
          refine GE_plain (.ld 0 [] (.st 1 .nil)) rfl ?_
          refine GT_call0 rfl rfl rfl rfl rfl rfl rfl rfl rn_16 (fun w hw => C_law05_Works) (GR_nil) ?_
          refine GT_st rfl rfl rfl rfl (V_assign rfl rfl) ?_
          refine GT_nil ?_
          refine GE_ret Try.func4 rfl (fun w hw => ⟨?_, hw.nil⟩)
          rfl
end Go.Proofs.Ytacmnmcaeflflaa
