/- LatheRefuses, walked. -/
import Derived.Test.YtacmnmcaeflflaaLaR
namespace Go.Proofs.Ytacmnmcaeflflaa
open Go.Sx Go.Proofs

theorem L_LatheRefuses {b : Blank} {A A2 : Option Addr} {l : List Pt} {st : List Stp} {c c2 : Nat} {w : World} (hp : RdL w 2 ePt A l) (_ : l.length ≤ c ∧ c ≤ maxLen ∧ ∀ x ∈ l, PtWf x) (hs : RdL w 2 eStp A2 st) (hxs : st.length ≤ c2 ∧ c2 ≤ maxLen ∧ ∀ x ∈ st, StpWf x) :
    Con0 Try.prog 12 [b.val, .slice A l.length c, .slice A2 st.length c2] w (.bool true) := by
  have hml := Nat.le_trans hxs.1 hxs.2.1
  unfold maxLen at hml
  have hrc := refuse_code (b := b) (l := l)
  refine Ret_of (vs := [_, _, _]) hm none' Try.func12 rfl Try.ntmps12 rfl ?_
  dsimp only [slotsOf]
  refine GE_seq ?_
  refine GE_plain (.ld 0 [] (.st 1 .nil)) rfl ?_
  refine GT_box (z := [_, _, _, _, _, _]) rfl rfl rfl rfl rfl rfl rfl (fun _ => GR_nil) (fun b3 => ?_)
  refine GT_st rfl rfl rfl rfl (V_assign rfl rfl) ?_
  refine GT_nil ?_
  refine GE_seq ?_
  refine GE_seq ?_
  refine GE_plain (.st 0 (.st 1 (.ld 2 [] (.st 3 (.st 4 (.st 5 (.st 6 (.st 7 (.st 8 (.st 9 (.st 10 (.st 11 (.st 12 (.st 13 (.st 14 (.st 15 (.st 16 (.st 17 .nil)))))))))))))))))) rfl ?_
  refine GT_st rfl rfl rfl rfl (V_move rfl rfl) ?_
  refine GT_st rfl rfl rfl rfl (V_len rfl Try.underlying24 rfl) ?_
  refine GT_call0 rfl rfl rfl rfl rfl rfl rfl rfl rn_15 (fun w hw => C_law05_long (n := l.length)) (GR_nil) ?_
  refine GT_st rfl rfl rfl rfl (V_move rfl rfl) ?_
  first | refine GT_splitNot (d := 15) rfl (fun h1 => ?_) (fun h1 => ?_) | refine GT_split (d := 15) rfl (fun h1 => ?_) (fun h1 => ?_) | refine GT_splitNotB (d := 15) rfl (fun h1 => ?_) (fun h1 => ?_) | refine GT_splitB (d := 15) rfl (fun h1 => ?_) (fun h1 => ?_)
  · skip
    refine GT_skip rfl rfl rfl rfl rfl (by decide) rfl rfl ?_
    refine GT_skip rfl rfl rfl rfl rfl (by decide) rfl rfl ?_
    refine GT_skip rfl rfl rfl rfl rfl (by decide) rfl rfl ?_
    refine GT_skip rfl rfl rfl rfl rfl (by decide) rfl rfl ?_
    refine GT_skip rfl rfl rfl rfl rfl (by decide) rfl rfl ?_
    refine GT_skip rfl rfl rfl rfl rfl (by decide) rfl rfl ?_
    refine GT_skip rfl rfl rfl rfl rfl (by decide) rfl rfl ?_
    refine GT_skip rfl rfl rfl rfl rfl (by decide) rfl rfl ?_
    refine GT_st rfl rfl rfl rfl (V_pick_t rfl rfl rfl) ?_
    refine GT_st rfl rfl rfl rfl (V_move rfl rfl) ?_
    refine GT_skip rfl rfl rfl rfl rfl (by decide) rfl rfl ?_
    refine GT_skip rfl rfl rfl rfl rfl (by decide) rfl rfl ?_
    refine GT_skip rfl rfl rfl rfl rfl (by decide) rfl rfl ?_
    refine GT_st rfl rfl rfl rfl (V_pick_t rfl rfl rfl) ?_
    refine GT_nil ?_
    refine GE_cond_t rfl ?_
    refine GE_seq ?_
    refine GE_slots (L' := []) trivial ?_
    refine GE_plain (.ld 0 [] (.st 1 .nil)) rfl ?_
    refine GT_call0 rfl rfl rfl rfl rfl rfl rfl rfl rn_16 (fun w hw => C_law05_Works) (GR_nil) ?_
    refine GT_st rfl rfl rfl rfl (V_assign rfl rfl) ?_
    refine GT_nil ?_
    refine GE_ret Try.func12 rfl (fun w hw => ⟨?_, hw.nil⟩)
    rfl
  · skip
    refine GT_st_g rfl rfl rfl rfl rfl rfl rfl (V_move rfl rfl) ?_
    refine GT_st_g rfl rfl rfl rfl rfl rfl rfl (V_len rfl Try.underlying56 rfl) ?_
    refine GT_st_g rfl rfl rfl rfl rfl rfl rfl (V_gtr rfl rfl rfl) ?_
    refine GT_st_g rfl rfl rfl rfl rfl rfl rfl (V_move rfl rfl) ?_
    first | refine GT_splitNot (d := 19) rfl (fun h2 => ?_) (fun h2 => ?_) | refine GT_split (d := 19) rfl (fun h2 => ?_) (fun h2 => ?_) | refine GT_splitNotB (d := 19) rfl (fun h2 => ?_) (fun h2 => ?_) | refine GT_splitB (d := 19) rfl (fun h2 => ?_) (fun h2 => ?_)
    · skip
      refine GT_st_g rfl rfl rfl rfl rfl rfl rfl (V_move rfl rfl) ?_
      refine GT_st_g rfl rfl rfl rfl rfl rfl rfl (V_len rfl Try.underlying56 rfl) ?_
      refine GT_st_g rfl rfl rfl rfl rfl rfl rfl (V_leq rfl rfl rfl) ?_
      refine GT_st_g rfl rfl rfl rfl rfl rfl rfl (V_pick_t rfl rfl rfl) ?_
      refine GT_st rfl rfl rfl rfl (V_pick_f rfl rfl rfl) ?_
      refine GT_st rfl rfl rfl rfl (V_move rfl rfl) ?_
      first | refine GT_splitNot (d := 25) rfl (fun h3 => ?_) (fun h3 => ?_) | refine GT_split (d := 25) rfl (fun h3 => ?_) (fun h3 => ?_) | refine GT_splitNotB (d := 25) rfl (fun h3 => ?_) (fun h3 => ?_) | refine GT_splitB (d := 25) rfl (fun h3 => ?_) (fun h3 => ?_)
      · skip
        refine GT_skip rfl rfl rfl rfl rfl (by decide) rfl rfl ?_
        refine GT_skip rfl rfl rfl rfl rfl (by decide) rfl rfl ?_
        refine GT_skip rfl rfl rfl rfl rfl (by decide) rfl rfl ?_
        refine GT_st rfl rfl rfl rfl (V_pick_t rfl rfl rfl) ?_
        refine GT_nil ?_
        refine GE_cond_t rfl ?_
        refine GE_seq ?_
        refine GE_slots (L' := []) trivial ?_
        refine GE_plain (.ld 0 [] (.st 1 .nil)) rfl ?_
        refine GT_call0 rfl rfl rfl rfl rfl rfl rfl rfl rn_16 (fun w hw => C_law05_Works) (GR_nil) ?_
        refine GT_st rfl rfl rfl rfl (V_assign rfl rfl) ?_
        refine GT_nil ?_
        refine GE_ret Try.func12 rfl (fun w hw => ⟨?_, hw.nil⟩)
        rfl
      · skip
        refine GT_st_g rfl rfl rfl rfl rfl rfl rfl (V_move rfl rfl) ?_
        refine GT_st_g rfl rfl rfl rfl rfl rfl rfl (V_len rfl Try.underlying56 rfl) ?_
        refine GT_st_g rfl rfl rfl rfl rfl rfl rfl (V_gtr rfl rfl rfl) ?_
        refine GT_st rfl rfl rfl rfl (V_pick_f rfl rfl rfl) ?_
        refine GT_nil ?_
        first | refine GE_condNot rfl (fun h4 => ?_) (fun h4 => ?_) | refine GE_cond rfl (fun h4 => ?_) (fun h4 => ?_) | refine GE_condNotB rfl (fun h4 => ?_) (fun h4 => ?_) | refine GE_condB rfl (fun h4 => ?_) (fun h4 => ?_)
        · skip
          refine GE_seq ?_
          refine GE_slots (L' := []) trivial ?_
          refine GE_plain (.ld 0 [] (.st 1 .nil)) rfl ?_
          refine GT_call0 rfl rfl rfl rfl rfl rfl rfl rfl rn_16 (fun w hw => C_law05_Works) (GR_nil) ?_
          refine GT_st rfl rfl rfl rfl (V_assign rfl rfl) ?_
          refine GT_nil ?_
          refine GE_ret Try.func12 rfl (fun w hw => ⟨?_, hw.nil⟩)
          rfl
        · skip
          refine GE_skip ?_
          refine GE_seq ?_
          refine GE_slots (L' := [(1, _), (2, _), (3, _)]) ⟨rfl, rfl, rfl, trivial⟩ ?_
          refine GE_plain (.st 0 (.st 1 (.ld 2 [] (.st 3 (.st 4 (.st 5 (.st 6 (.st 7 .nil)))))))) rfl ?_
          refine GT_st rfl rfl rfl rfl (V_loadN (vs := [_, _, _, _, _, _]) rfl rfl ag_23 sz_23 rfl (CellsAt.item rfl)) ?_
          refine GT_st rfl rfl rfl rfl (V_move rfl rfl) ?_
          refine GT_call rfl rfl rfl rfl rfl rfl rfl rfl rn_34 (fun w hw => C_lathe_Refuse (hp.sh hw)) (fun _ _ => GR_nil) (fun y hy => ?_)
          refine GT_st rfl rfl rfl rfl (V_move rfl rfl) ?_
          refine GT_st rfl rfl rfl rfl (V_extract rfl rfl rfl) ?_
          refine GT_st rfl rfl rfl rfl (V_extract rfl rfl rfl) ?_
          refine GT_st rfl rfl rfl rfl (V_assign rfl rfl) ?_
          refine GT_st rfl rfl rfl rfl (V_assign rfl rfl) ?_
          refine GT_nil ?_
          refine GE_seq ?_
          refine GE_slots (L' := [(1, _), (2, _), (3, _), (7, _), (8, _)]) ⟨rfl, rfl, rfl, rfl, rfl, trivial⟩ ?_
          refine GE_plain (.st 0 (.st 1 (.ld 2 [] (.st 3 (.st 4 (.st 5 (.st 6 (.st 7 .nil)))))))) rfl ?_
          refine GT_st rfl rfl rfl rfl (V_loadN (vs := [_, _, _, _, _, _]) rfl rfl ag_23 sz_23 rfl (CellsAt.item rfl)) ?_
          refine GT_st rfl rfl rfl rfl (V_move rfl rfl) ?_
          refine GT_call rfl rfl rfl rfl rfl rfl rfl rfl rn_18 (fun w hw => C_ref05_Outermost (hp.sh hw)) (fun _ _ => GR_nil) (fun z hz => ?_)
          refine GT_st rfl rfl rfl rfl (V_move rfl rfl) ?_
          refine GT_st rfl rfl rfl rfl (V_extract rfl rfl rfl) ?_
          refine GT_st rfl rfl rfl rfl (V_extract rfl rfl rfl) ?_
          refine GT_st rfl rfl rfl rfl (V_assign rfl rfl) ?_
          refine GT_st rfl rfl rfl rfl (V_assign rfl rfl) ?_
          refine GT_nil ?_
          refine GE_seq ?_
          refine GE_slots (L' := [(1, _), (2, _), (3, _), (7, _), (8, _), (10, _)]) ⟨rfl, rfl, rfl, rfl, rfl, rfl, trivial⟩ ?_
          refine GE_plain (.st 0 (.st 1 .nil)) rfl ?_
          refine GT_st rfl rfl rfl rfl (V_move rfl rfl) ?_
          refine GT_st rfl rfl rfl rfl (V_assign rfl rfl) ?_
          refine GT_nil ?_
          refine GE_seq ?_
          refine GE_seq ?_
          refine GE_plain (.st 0 (.st 1 .nil)) rfl ?_
          refine GT_st rfl rfl rfl rfl (V_move rfl rfl) ?_
          refine GT_st rfl rfl rfl rfl (V_eql rfl rfl rfl) ?_
          refine GT_nil ?_
          first | refine GE_condNot rfl (fun h5 => ?_) (fun h5 => ?_) | refine GE_cond rfl (fun h5 => ?_) (fun h5 => ?_) | refine GE_condNotB rfl (fun h5 => ?_) (fun h5 => ?_) | refine GE_condB rfl (fun h5 => ?_) (fun h5 => ?_)
          · skip
            refine GE_slots (L' := [(1, _), (2, _), (3, _), (7, _), (8, _), (10, _)]) ⟨rfl, rfl, rfl, rfl, rfl, rfl, trivial⟩ ?_
            refine GE_plain (.st 0 .nil) rfl ?_
            refine GT_st rfl rfl rfl rfl (V_assign rfl rfl) ?_
            refine GT_nil ?_
            refine GE_seq ?_
            refine GE_seq ?_
            refine GE_plain (.st 0 (.st 1 .nil)) rfl ?_
            refine GT_st rfl rfl rfl rfl (V_move rfl rfl) ?_
            refine GT_st rfl rfl rfl rfl (V_eql rfl rfl rfl) ?_
            refine GT_nil ?_
            first | refine GE_condNot rfl (fun h6 => ?_) (fun h6 => ?_) | refine GE_cond rfl (fun h6 => ?_) (fun h6 => ?_) | refine GE_condNotB rfl (fun h6 => ?_) (fun h6 => ?_) | refine GE_condB rfl (fun h6 => ?_) (fun h6 => ?_)
            · skip
              refine GE_slots (L' := [(1, _), (2, _), (3, _), (7, _), (8, _)]) ⟨rfl, rfl, rfl, rfl, rfl, trivial⟩ ?_
              refine GE_plain (.st 0 .nil) rfl ?_
              refine GT_st rfl rfl rfl rfl (V_assign rfl rfl) ?_
              refine GT_nil ?_
              refine GE_seq ?_
              refine GE_drawn (.st 0 (.st 1 (.st 2 (.st 3 (.st 4 (.st 5 (.st 6 (.st 7 (.st 8 (.st 9 (.st 10 (.st 11 (.st 12 (.st 13 (.st 14 (.st 16 (.st 17 (.st 18 (.ld 15 [0, 1, 2, 3, 4, 5, 6, 7, 8, 9, 10, 16, 17, 18] (.ld 19 [0, 1, 2, 3, 4, 5, 6, 7, 8, 9, 10, 12, 13, 14] (.st 20 (.st 21 (.st 22 (.ld 23 [0, 1, 2, 3, 4, 5, 6, 7, 8, 9, 10, 11, 12, 13, 14, 16, 17, 18, 20, 21] (.st 24 (.st 25 .nil)))))))))))))))))))))))))) [15, 19, 23] (by decide +kernel) ?_
              refine GT_st rfl rfl rfl rfl (V_move rfl rfl) ?_
              refine GT_st rfl rfl rfl rfl (V_move rfl rfl) ?_
              refine GT_st rfl rfl rfl rfl (V_isT (V_eql rfl rfl rfl) (by first | (exfalso; omega) | rw [hrc, if_pos h5] | rw [hrc, if_neg h5, if_pos h6] | rw [hrc, if_neg h5, if_neg h6])) ?_
              refine GT_st rfl rfl rfl rfl (V_move rfl rfl) ?_
              refine GT_st_g rfl rfl rfl rfl rfl rfl rfl (V_move rfl rfl) ?_
              refine GT_st_g rfl rfl rfl rfl rfl rfl rfl (V_eql rfl rfl rfl) ?_
              refine GT_st_g rfl rfl rfl rfl rfl rfl rfl (V_move rfl rfl) ?_
              refine GT_st_g rfl rfl rfl rfl rfl rfl rfl (V_len rfl Try.underlying56 rfl) ?_
              refine GT_st_g rfl rfl rfl rfl rfl rfl rfl (V_gtr rfl rfl rfl) ?_
              refine GT_st_g rfl rfl rfl rfl rfl rfl rfl (V_eqlBB_same rfl rfl rfl Try.underlying4 (by rw [Bool.eq_iff_iff, decide_eq_true_eq, decide_eq_true_eq]; constructor; intro q; have := (hy.2.1 q).1; omega; intro q; by_cases q2 : refuseE b l = 0; exact q2; rw [hy.2.2 q2] at q; simp at q)) ?_
              refine GT_st rfl rfl rfl rfl (V_pick_t rfl rfl rfl) ?_
              refine GT_st rfl rfl rfl rfl (V_move rfl rfl) ?_
              refine GT_st_g rfl rfl rfl rfl rfl rfl rfl (V_loadN (vs := [_, _, _, _, _, _]) rfl rfl ag_23 sz_23 rfl (CellsAt.item rfl)) ?_
              refine GT_st_g rfl rfl rfl rfl rfl rfl rfl (V_move rfl rfl) ?_
              refine GT_st_g rfl rfl rfl rfl rfl rfl rfl (V_move rfl rfl) ?_
              refine GT_st_g rfl rfl rfl rfl rfl rfl rfl (V_loadN (vs := [_, _, _, _, _, _]) rfl rfl ag_23 sz_23 rfl (CellsAt.item rfl)) ?_
              refine GT_st_g rfl rfl rfl rfl rfl rfl rfl (V_move rfl rfl) ?_
              refine GT_st_g rfl rfl rfl rfl rfl rfl rfl (V_move rfl rfl) ?_
              refine GT_call0_g rfl rfl rfl rfl rfl rfl rfl rfl rfl rfl rfl rn_35 (fun w hw => C_lathe_CheckRefusal (hp.sh hw) (hs.sh hw) (by omega)) (GR_cons rfl rfl rfl rfl (V_move rfl rfl) (GR_cons rfl rfl rfl rfl (V_move rfl rfl) (GR_cons rfl rfl rfl rfl (V_isT (V_eql rfl rfl rfl) (by first | (exfalso; omega) | rw [hrc, if_pos h5] | rw [hrc, if_neg h5, if_pos h6] | rw [hrc, if_neg h5, if_neg h6])) (GR_cons rfl rfl rfl rfl (V_move rfl rfl) (GR_cons_g rfl rfl rfl rfl rfl rfl rfl (V_move rfl rfl) (GR_cons_g rfl rfl rfl rfl rfl rfl rfl (V_eql rfl rfl rfl) (GR_cons_g rfl rfl rfl rfl rfl rfl rfl (V_move rfl rfl) (GR_cons_g rfl rfl rfl rfl rfl rfl rfl (V_len rfl Try.underlying56 rfl) (GR_cons_g rfl rfl rfl rfl rfl rfl rfl (V_gtr rfl rfl rfl) (GR_cons_g rfl rfl rfl rfl rfl rfl rfl (V_eqlBB_same rfl rfl rfl Try.underlying4 (by rw [Bool.eq_iff_iff, decide_eq_true_eq, decide_eq_true_eq]; constructor; intro q; have := (hy.2.1 q).1; omega; intro q; by_cases q2 : refuseE b l = 0; exact q2; rw [hy.2.2 q2] at q; simp at q)) (GR_cons rfl rfl rfl rfl (V_pick_t rfl rfl rfl) (GR_cons_g rfl rfl rfl rfl rfl rfl rfl (V_loadN (vs := [_, _, _, _, _, _]) rfl rfl ag_23 sz_23 rfl (CellsAt.item rfl)) (GR_cons_g rfl rfl rfl rfl rfl rfl rfl (V_move rfl rfl) (GR_cons_g rfl rfl rfl rfl rfl rfl rfl (V_move rfl rfl) (GR_nil))))))))))))))) ?_
              refine GT_call0_g rfl rfl rfl rfl rfl rfl rfl rfl rfl rfl rfl rn_36 (fun w hw => C_ref05_CheckRefusal (hp.sh hw) (hs.sh hw) (by omega)) (GR_cons rfl rfl rfl rfl (V_move rfl rfl) (GR_cons rfl rfl rfl rfl (V_move rfl rfl) (GR_cons rfl rfl rfl rfl (V_isT (V_eql rfl rfl rfl) (by first | (exfalso; omega) | rw [hrc, if_pos h5] | rw [hrc, if_neg h5, if_pos h6] | rw [hrc, if_neg h5, if_neg h6])) (GR_cons rfl rfl rfl rfl (V_move rfl rfl) (GR_cons_g rfl rfl rfl rfl rfl rfl rfl (V_move rfl rfl) (GR_cons_g rfl rfl rfl rfl rfl rfl rfl (V_eql rfl rfl rfl) (GR_cons_g rfl rfl rfl rfl rfl rfl rfl (V_move rfl rfl) (GR_cons_g rfl rfl rfl rfl rfl rfl rfl (V_len rfl Try.underlying56 rfl) (GR_cons_g rfl rfl rfl rfl rfl rfl rfl (V_gtr rfl rfl rfl) (GR_cons_g rfl rfl rfl rfl rfl rfl rfl (V_eqlBB_same rfl rfl rfl Try.underlying4 (by rw [Bool.eq_iff_iff, decide_eq_true_eq, decide_eq_true_eq]; constructor; intro q; have := (hy.2.1 q).1; omega; intro q; by_cases q2 : refuseE b l = 0; exact q2; rw [hy.2.2 q2] at q; simp at q)) (GR_cons rfl rfl rfl rfl (V_pick_t rfl rfl rfl) (GR_cons_g rfl rfl rfl rfl rfl rfl rfl (V_loadN (vs := [_, _, _, _, _, _]) rfl rfl ag_23 sz_23 rfl (CellsAt.item rfl)) (GR_cons_g rfl rfl rfl rfl rfl rfl rfl (V_move rfl rfl) (GR_cons_g rfl rfl rfl rfl rfl rfl rfl (V_move rfl rfl) (GR_nil))))))))))))))) ?_
              refine GT_st_g rfl rfl rfl rfl rfl rfl rfl (V_isT (V_eql rfl rfl rfl) rfl) ?_
              refine GT_st rfl rfl rfl rfl (V_pick_t rfl rfl rfl) ?_
              refine GT_st rfl rfl rfl rfl (V_move rfl rfl) ?_
              refine GT_call0_g rfl rfl rfl rfl rfl rfl rfl rfl rfl rfl rfl rn_16 (fun w hw => C_law05_Works) (GR_cons rfl rfl rfl rfl (V_move rfl rfl) (GR_cons rfl rfl rfl rfl (V_move rfl rfl) (GR_cons rfl rfl rfl rfl (V_isT (V_eql rfl rfl rfl) (by first | (exfalso; omega) | rw [hrc, if_pos h5] | rw [hrc, if_neg h5, if_pos h6] | rw [hrc, if_neg h5, if_neg h6])) (GR_cons rfl rfl rfl rfl (V_move rfl rfl) (GR_cons_g rfl rfl rfl rfl rfl rfl rfl (V_move rfl rfl) (GR_cons_g rfl rfl rfl rfl rfl rfl rfl (V_eql rfl rfl rfl) (GR_cons_g rfl rfl rfl rfl rfl rfl rfl (V_move rfl rfl) (GR_cons_g rfl rfl rfl rfl rfl rfl rfl (V_len rfl Try.underlying56 rfl) (GR_cons_g rfl rfl rfl rfl rfl rfl rfl (V_gtr rfl rfl rfl) (GR_cons_g rfl rfl rfl rfl rfl rfl rfl (V_eqlBB_same rfl rfl rfl Try.underlying4 (by rw [Bool.eq_iff_iff, decide_eq_true_eq, decide_eq_true_eq]; constructor; intro q; have := (hy.2.1 q).1; omega; intro q; by_cases q2 : refuseE b l = 0; exact q2; rw [hy.2.2 q2] at q; simp at q)) (GR_cons rfl rfl rfl rfl (V_pick_t rfl rfl rfl) (GR_cons rfl rfl rfl rfl (V_move rfl rfl) (GR_cons_g rfl rfl rfl rfl rfl rfl rfl (V_loadN (vs := [_, _, _, _, _, _]) rfl rfl ag_23 sz_23 rfl (CellsAt.item rfl)) (GR_cons_g rfl rfl rfl rfl rfl rfl rfl (V_move rfl rfl) (GR_cons_g rfl rfl rfl rfl rfl rfl rfl (V_move rfl rfl) (GR_cons_g rfl rfl rfl rfl rfl rfl rfl (V_loadN (vs := [_, _, _, _, _, _]) rfl rfl ag_23 sz_23 rfl (CellsAt.item rfl)) (GR_cons_g rfl rfl rfl rfl rfl rfl rfl (V_move rfl rfl) (GR_cons_g rfl rfl rfl rfl rfl rfl rfl (V_move rfl rfl) (GR_cons_g rfl rfl rfl rfl rfl rfl rfl (V_isT (V_eql rfl rfl rfl) rfl) (GR_cons rfl rfl rfl rfl (V_pick_t rfl rfl rfl) (GR_nil))))))))))))))))))))) ?_
              refine GT_st rfl rfl rfl rfl (V_pick_t rfl rfl rfl) ?_
              refine GT_st rfl rfl rfl rfl (V_assign rfl rfl) ?_
              refine GT_nil ?_
              refine GE_ret Try.func12 rfl (fun w hw => ⟨?_, hw.nil⟩)
              rfl
            · skip
              refine GE_skip ?_
              refine GE_seq ?_
              refine GE_drawn (.st 0 (.st 1 (.st 2 (.st 3 (.st 4 (.st 5 (.st 6 (.st 7 (.st 8 (.st 9 (.st 10 (.st 11 (.st 12 (.st 13 (.st 14 (.st 16 (.st 17 (.st 18 (.ld 15 [0, 1, 2, 3, 4, 5, 6, 7, 8, 9, 10, 16, 17, 18] (.ld 19 [0, 1, 2, 3, 4, 5, 6, 7, 8, 9, 10, 12, 13, 14] (.st 20 (.st 21 (.st 22 (.ld 23 [0, 1, 2, 3, 4, 5, 6, 7, 8, 9, 10, 11, 12, 13, 14, 16, 17, 18, 20, 21] (.st 24 (.st 25 .nil)))))))))))))))))))))))))) [15, 19, 23] (by decide +kernel) ?_
              refine GT_st rfl rfl rfl rfl (V_move rfl rfl) ?_
              refine GT_st rfl rfl rfl rfl (V_move rfl rfl) ?_
              refine GT_st rfl rfl rfl rfl (V_isT (V_eql rfl rfl rfl) (by first | (exfalso; omega) | rw [hrc, if_pos h5] | rw [hrc, if_neg h5, if_pos h6] | rw [hrc, if_neg h5, if_neg h6])) ?_
              refine GT_st rfl rfl rfl rfl (V_move rfl rfl) ?_
              refine GT_st_g rfl rfl rfl rfl rfl rfl rfl (V_move rfl rfl) ?_
              refine GT_st_g rfl rfl rfl rfl rfl rfl rfl (V_eql rfl rfl rfl) ?_
              refine GT_st_g rfl rfl rfl rfl rfl rfl rfl (V_move rfl rfl) ?_
              refine GT_st_g rfl rfl rfl rfl rfl rfl rfl (V_len rfl Try.underlying56 rfl) ?_
              refine GT_st_g rfl rfl rfl rfl rfl rfl rfl (V_gtr rfl rfl rfl) ?_
              refine GT_st_g rfl rfl rfl rfl rfl rfl rfl (V_eqlBB_same rfl rfl rfl Try.underlying4 (by rw [Bool.eq_iff_iff, decide_eq_true_eq, decide_eq_true_eq]; constructor; intro q; have := (hy.2.1 q).1; omega; intro q; by_cases q2 : refuseE b l = 0; exact q2; rw [hy.2.2 q2] at q; simp at q)) ?_
              refine GT_st rfl rfl rfl rfl (V_pick_t rfl rfl rfl) ?_
              refine GT_st rfl rfl rfl rfl (V_move rfl rfl) ?_
              refine GT_st_g rfl rfl rfl rfl rfl rfl rfl (V_loadN (vs := [_, _, _, _, _, _]) rfl rfl ag_23 sz_23 rfl (CellsAt.item rfl)) ?_
              refine GT_st_g rfl rfl rfl rfl rfl rfl rfl (V_move rfl rfl) ?_
              refine GT_st_g rfl rfl rfl rfl rfl rfl rfl (V_move rfl rfl) ?_
              refine GT_st_g rfl rfl rfl rfl rfl rfl rfl (V_loadN (vs := [_, _, _, _, _, _]) rfl rfl ag_23 sz_23 rfl (CellsAt.item rfl)) ?_
              refine GT_st_g rfl rfl rfl rfl rfl rfl rfl (V_move rfl rfl) ?_
              refine GT_st_g rfl rfl rfl rfl rfl rfl rfl (V_move rfl rfl) ?_
              refine GT_call0_g rfl rfl rfl rfl rfl rfl rfl rfl rfl rfl rfl rn_35 (fun w hw => C_lathe_CheckRefusal (hp.sh hw) (hs.sh hw) (by omega)) (GR_cons rfl rfl rfl rfl (V_move rfl rfl) (GR_cons rfl rfl rfl rfl (V_move rfl rfl) (GR_cons rfl rfl rfl rfl (V_isT (V_eql rfl rfl rfl) (by first | (exfalso; omega) | rw [hrc, if_pos h5] | rw [hrc, if_neg h5, if_pos h6] | rw [hrc, if_neg h5, if_neg h6])) (GR_cons rfl rfl rfl rfl (V_move rfl rfl) (GR_cons_g rfl rfl rfl rfl rfl rfl rfl (V_move rfl rfl) (GR_cons_g rfl rfl rfl rfl rfl rfl rfl (V_eql rfl rfl rfl) (GR_cons_g rfl rfl rfl rfl rfl rfl rfl (V_move rfl rfl) (GR_cons_g rfl rfl rfl rfl rfl rfl rfl (V_len rfl Try.underlying56 rfl) (GR_cons_g rfl rfl rfl rfl rfl rfl rfl (V_gtr rfl rfl rfl) (GR_cons_g rfl rfl rfl rfl rfl rfl rfl (V_eqlBB_same rfl rfl rfl Try.underlying4 (by rw [Bool.eq_iff_iff, decide_eq_true_eq, decide_eq_true_eq]; constructor; intro q; have := (hy.2.1 q).1; omega; intro q; by_cases q2 : refuseE b l = 0; exact q2; rw [hy.2.2 q2] at q; simp at q)) (GR_cons rfl rfl rfl rfl (V_pick_t rfl rfl rfl) (GR_cons_g rfl rfl rfl rfl rfl rfl rfl (V_loadN (vs := [_, _, _, _, _, _]) rfl rfl ag_23 sz_23 rfl (CellsAt.item rfl)) (GR_cons_g rfl rfl rfl rfl rfl rfl rfl (V_move rfl rfl) (GR_cons_g rfl rfl rfl rfl rfl rfl rfl (V_move rfl rfl) (GR_nil))))))))))))))) ?_
              refine GT_call0_g rfl rfl rfl rfl rfl rfl rfl rfl rfl rfl rfl rn_36 (fun w hw => C_ref05_CheckRefusal (hp.sh hw) (hs.sh hw) (by omega)) (GR_cons rfl rfl rfl rfl (V_move rfl rfl) (GR_cons rfl rfl rfl rfl (V_move rfl rfl) (GR_cons rfl rfl rfl rfl (V_isT (V_eql rfl rfl rfl) (by first | (exfalso; omega) | rw [hrc, if_pos h5] | rw [hrc, if_neg h5, if_pos h6] | rw [hrc, if_neg h5, if_neg h6])) (GR_cons rfl rfl rfl rfl (V_move rfl rfl) (GR_cons_g rfl rfl rfl rfl rfl rfl rfl (V_move rfl rfl) (GR_cons_g rfl rfl rfl rfl rfl rfl rfl (V_eql rfl rfl rfl) (GR_cons_g rfl rfl rfl rfl rfl rfl rfl (V_move rfl rfl) (GR_cons_g rfl rfl rfl rfl rfl rfl rfl (V_len rfl Try.underlying56 rfl) (GR_cons_g rfl rfl rfl rfl rfl rfl rfl (V_gtr rfl rfl rfl) (GR_cons_g rfl rfl rfl rfl rfl rfl rfl (V_eqlBB_same rfl rfl rfl Try.underlying4 (by rw [Bool.eq_iff_iff, decide_eq_true_eq, decide_eq_true_eq]; constructor; intro q; have := (hy.2.1 q).1; omega; intro q; by_cases q2 : refuseE b l = 0; exact q2; rw [hy.2.2 q2] at q; simp at q)) (GR_cons rfl rfl rfl rfl (V_pick_t rfl rfl rfl) (GR_cons_g rfl rfl rfl rfl rfl rfl rfl (V_loadN (vs := [_, _, _, _, _, _]) rfl rfl ag_23 sz_23 rfl (CellsAt.item rfl)) (GR_cons_g rfl rfl rfl rfl rfl rfl rfl (V_move rfl rfl) (GR_cons_g rfl rfl rfl rfl rfl rfl rfl (V_move rfl rfl) (GR_nil))))))))))))))) ?_
              refine GT_st_g rfl rfl rfl rfl rfl rfl rfl (V_isT (V_eql rfl rfl rfl) rfl) ?_
              refine GT_st rfl rfl rfl rfl (V_pick_t rfl rfl rfl) ?_
              refine GT_st rfl rfl rfl rfl (V_move rfl rfl) ?_
              refine GT_call0_g rfl rfl rfl rfl rfl rfl rfl rfl rfl rfl rfl rn_16 (fun w hw => C_law05_Works) (GR_cons rfl rfl rfl rfl (V_move rfl rfl) (GR_cons rfl rfl rfl rfl (V_move rfl rfl) (GR_cons rfl rfl rfl rfl (V_isT (V_eql rfl rfl rfl) (by first | (exfalso; omega) | rw [hrc, if_pos h5] | rw [hrc, if_neg h5, if_pos h6] | rw [hrc, if_neg h5, if_neg h6])) (GR_cons rfl rfl rfl rfl (V_move rfl rfl) (GR_cons_g rfl rfl rfl rfl rfl rfl rfl (V_move rfl rfl) (GR_cons_g rfl rfl rfl rfl rfl rfl rfl (V_eql rfl rfl rfl) (GR_cons_g rfl rfl rfl rfl rfl rfl rfl (V_move rfl rfl) (GR_cons_g rfl rfl rfl rfl rfl rfl rfl (V_len rfl Try.underlying56 rfl) (GR_cons_g rfl rfl rfl rfl rfl rfl rfl (V_gtr rfl rfl rfl) (GR_cons_g rfl rfl rfl rfl rfl rfl rfl (V_eqlBB_same rfl rfl rfl Try.underlying4 (by rw [Bool.eq_iff_iff, decide_eq_true_eq, decide_eq_true_eq]; constructor; intro q; have := (hy.2.1 q).1; omega; intro q; by_cases q2 : refuseE b l = 0; exact q2; rw [hy.2.2 q2] at q; simp at q)) (GR_cons rfl rfl rfl rfl (V_pick_t rfl rfl rfl) (GR_cons rfl rfl rfl rfl (V_move rfl rfl) (GR_cons_g rfl rfl rfl rfl rfl rfl rfl (V_loadN (vs := [_, _, _, _, _, _]) rfl rfl ag_23 sz_23 rfl (CellsAt.item rfl)) (GR_cons_g rfl rfl rfl rfl rfl rfl rfl (V_move rfl rfl) (GR_cons_g rfl rfl rfl rfl rfl rfl rfl (V_move rfl rfl) (GR_cons_g rfl rfl rfl rfl rfl rfl rfl (V_loadN (vs := [_, _, _, _, _, _]) rfl rfl ag_23 sz_23 rfl (CellsAt.item rfl)) (GR_cons_g rfl rfl rfl rfl rfl rfl rfl (V_move rfl rfl) (GR_cons_g rfl rfl rfl rfl rfl rfl rfl (V_move rfl rfl) (GR_cons_g rfl rfl rfl rfl rfl rfl rfl (V_isT (V_eql rfl rfl rfl) rfl) (GR_cons rfl rfl rfl rfl (V_pick_t rfl rfl rfl) (GR_nil))))))))))))))))))))) ?_
              refine GT_st rfl rfl rfl rfl (V_pick_t rfl rfl rfl) ?_
              refine GT_st rfl rfl rfl rfl (V_assign rfl rfl) ?_
              refine GT_nil ?_
              refine GE_ret Try.func12 rfl (fun w hw => ⟨?_, hw.nil⟩)
              rfl
          · skip
            refine GE_skip ?_
            refine GE_seq ?_
            refine GE_seq ?_
            refine GE_plain (.st 0 (.st 1 .nil)) rfl ?_
            refine GT_st rfl rfl rfl rfl (V_move rfl rfl) ?_
            refine GT_st rfl rfl rfl rfl (V_eql rfl rfl rfl) ?_
            refine GT_nil ?_
            first | refine GE_condNot rfl (fun h6 => ?_) (fun h6 => ?_) | refine GE_cond rfl (fun h6 => ?_) (fun h6 => ?_) | refine GE_condNotB rfl (fun h6 => ?_) (fun h6 => ?_) | refine GE_condB rfl (fun h6 => ?_) (fun h6 => ?_)
            · skip
              refine GE_slots (L' := [(1, _), (2, _), (3, _), (7, _), (8, _)]) ⟨rfl, rfl, rfl, rfl, rfl, trivial⟩ ?_
              refine GE_plain (.st 0 .nil) rfl ?_
              refine GT_st rfl rfl rfl rfl (V_assign rfl rfl) ?_
              refine GT_nil ?_
              refine GE_seq ?_
              refine GE_drawn (.st 0 (.st 1 (.st 2 (.st 3 (.st 4 (.st 5 (.st 6 (.st 7 (.st 8 (.st 9 (.st 10 (.st 11 (.st 12 (.st 13 (.st 14 (.st 16 (.st 17 (.st 18 (.ld 15 [0, 1, 2, 3, 4, 5, 6, 7, 8, 9, 10, 16, 17, 18] (.ld 19 [0, 1, 2, 3, 4, 5, 6, 7, 8, 9, 10, 12, 13, 14] (.st 20 (.st 21 (.st 22 (.ld 23 [0, 1, 2, 3, 4, 5, 6, 7, 8, 9, 10, 11, 12, 13, 14, 16, 17, 18, 20, 21] (.st 24 (.st 25 .nil)))))))))))))))))))))))))) [15, 19, 23] (by decide +kernel) ?_
              refine GT_st rfl rfl rfl rfl (V_move rfl rfl) ?_
              refine GT_st rfl rfl rfl rfl (V_move rfl rfl) ?_
              refine GT_st rfl rfl rfl rfl (V_isT (V_eql rfl rfl rfl) (by first | (exfalso; omega) | rw [hrc, if_pos h5] | rw [hrc, if_neg h5, if_pos h6] | rw [hrc, if_neg h5, if_neg h6])) ?_
              refine GT_st rfl rfl rfl rfl (V_move rfl rfl) ?_
              refine GT_st_g rfl rfl rfl rfl rfl rfl rfl (V_move rfl rfl) ?_
              refine GT_st_g rfl rfl rfl rfl rfl rfl rfl (V_eql rfl rfl rfl) ?_
              refine GT_st_g rfl rfl rfl rfl rfl rfl rfl (V_move rfl rfl) ?_
              refine GT_st_g rfl rfl rfl rfl rfl rfl rfl (V_len rfl Try.underlying56 rfl) ?_
              refine GT_st_g rfl rfl rfl rfl rfl rfl rfl (V_gtr rfl rfl rfl) ?_
              refine GT_st_g rfl rfl rfl rfl rfl rfl rfl (V_eqlBB_same rfl rfl rfl Try.underlying4 (by rw [Bool.eq_iff_iff, decide_eq_true_eq, decide_eq_true_eq]; constructor; intro q; have := (hy.2.1 q).1; omega; intro q; by_cases q2 : refuseE b l = 0; exact q2; rw [hy.2.2 q2] at q; simp at q)) ?_
              refine GT_st rfl rfl rfl rfl (V_pick_t rfl rfl rfl) ?_
              refine GT_st rfl rfl rfl rfl (V_move rfl rfl) ?_
              refine GT_st_g rfl rfl rfl rfl rfl rfl rfl (V_loadN (vs := [_, _, _, _, _, _]) rfl rfl ag_23 sz_23 rfl (CellsAt.item rfl)) ?_
              refine GT_st_g rfl rfl rfl rfl rfl rfl rfl (V_move rfl rfl) ?_
              refine GT_st_g rfl rfl rfl rfl rfl rfl rfl (V_move rfl rfl) ?_
              refine GT_st_g rfl rfl rfl rfl rfl rfl rfl (V_loadN (vs := [_, _, _, _, _, _]) rfl rfl ag_23 sz_23 rfl (CellsAt.item rfl)) ?_
              refine GT_st_g rfl rfl rfl rfl rfl rfl rfl (V_move rfl rfl) ?_
              refine GT_st_g rfl rfl rfl rfl rfl rfl rfl (V_move rfl rfl) ?_
              refine GT_call0_g rfl rfl rfl rfl rfl rfl rfl rfl rfl rfl rfl rn_35 (fun w hw => C_lathe_CheckRefusal (hp.sh hw) (hs.sh hw) (by omega)) (GR_cons rfl rfl rfl rfl (V_move rfl rfl) (GR_cons rfl rfl rfl rfl (V_move rfl rfl) (GR_cons rfl rfl rfl rfl (V_isT (V_eql rfl rfl rfl) (by first | (exfalso; omega) | rw [hrc, if_pos h5] | rw [hrc, if_neg h5, if_pos h6] | rw [hrc, if_neg h5, if_neg h6])) (GR_cons rfl rfl rfl rfl (V_move rfl rfl) (GR_cons_g rfl rfl rfl rfl rfl rfl rfl (V_move rfl rfl) (GR_cons_g rfl rfl rfl rfl rfl rfl rfl (V_eql rfl rfl rfl) (GR_cons_g rfl rfl rfl rfl rfl rfl rfl (V_move rfl rfl) (GR_cons_g rfl rfl rfl rfl rfl rfl rfl (V_len rfl Try.underlying56 rfl) (GR_cons_g rfl rfl rfl rfl rfl rfl rfl (V_gtr rfl rfl rfl) (GR_cons_g rfl rfl rfl rfl rfl rfl rfl (V_eqlBB_same rfl rfl rfl Try.underlying4 (by rw [Bool.eq_iff_iff, decide_eq_true_eq, decide_eq_true_eq]; constructor; intro q; have := (hy.2.1 q).1; omega; intro q; by_cases q2 : refuseE b l = 0; exact q2; rw [hy.2.2 q2] at q; simp at q)) (GR_cons rfl rfl rfl rfl (V_pick_t rfl rfl rfl) (GR_cons_g rfl rfl rfl rfl rfl rfl rfl (V_loadN (vs := [_, _, _, _, _, _]) rfl rfl ag_23 sz_23 rfl (CellsAt.item rfl)) (GR_cons_g rfl rfl rfl rfl rfl rfl rfl (V_move rfl rfl) (GR_cons_g rfl rfl rfl rfl rfl rfl rfl (V_move rfl rfl) (GR_nil))))))))))))))) ?_
              refine GT_call0_g rfl rfl rfl rfl rfl rfl rfl rfl rfl rfl rfl rn_36 (fun w hw => C_ref05_CheckRefusal (hp.sh hw) (hs.sh hw) (by omega)) (GR_cons rfl rfl rfl rfl (V_move rfl rfl) (GR_cons rfl rfl rfl rfl (V_move rfl rfl) (GR_cons rfl rfl rfl rfl (V_isT (V_eql rfl rfl rfl) (by first | (exfalso; omega) | rw [hrc, if_pos h5] | rw [hrc, if_neg h5, if_pos h6] | rw [hrc, if_neg h5, if_neg h6])) (GR_cons rfl rfl rfl rfl (V_move rfl rfl) (GR_cons_g rfl rfl rfl rfl rfl rfl rfl (V_move rfl rfl) (GR_cons_g rfl rfl rfl rfl rfl rfl rfl (V_eql rfl rfl rfl) (GR_cons_g rfl rfl rfl rfl rfl rfl rfl (V_move rfl rfl) (GR_cons_g rfl rfl rfl rfl rfl rfl rfl (V_len rfl Try.underlying56 rfl) (GR_cons_g rfl rfl rfl rfl rfl rfl rfl (V_gtr rfl rfl rfl) (GR_cons_g rfl rfl rfl rfl rfl rfl rfl (V_eqlBB_same rfl rfl rfl Try.underlying4 (by rw [Bool.eq_iff_iff, decide_eq_true_eq, decide_eq_true_eq]; constructor; intro q; have := (hy.2.1 q).1; omega; intro q; by_cases q2 : refuseE b l = 0; exact q2; rw [hy.2.2 q2] at q; simp at q)) (GR_cons rfl rfl rfl rfl (V_pick_t rfl rfl rfl) (GR_cons_g rfl rfl rfl rfl rfl rfl rfl (V_loadN (vs := [_, _, _, _, _, _]) rfl rfl ag_23 sz_23 rfl (CellsAt.item rfl)) (GR_cons_g rfl rfl rfl rfl rfl rfl rfl (V_move rfl rfl) (GR_cons_g rfl rfl rfl rfl rfl rfl rfl (V_move rfl rfl) (GR_nil))))))))))))))) ?_
              refine GT_st_g rfl rfl rfl rfl rfl rfl rfl (V_isT (V_eql rfl rfl rfl) rfl) ?_
              refine GT_st rfl rfl rfl rfl (V_pick_t rfl rfl rfl) ?_
              refine GT_st rfl rfl rfl rfl (V_move rfl rfl) ?_
              refine GT_call0_g rfl rfl rfl rfl rfl rfl rfl rfl rfl rfl rfl rn_16 (fun w hw => C_law05_Works) (GR_cons rfl rfl rfl rfl (V_move rfl rfl) (GR_cons rfl rfl rfl rfl (V_move rfl rfl) (GR_cons rfl rfl rfl rfl (V_isT (V_eql rfl rfl rfl) (by first | (exfalso; omega) | rw [hrc, if_pos h5] | rw [hrc, if_neg h5, if_pos h6] | rw [hrc, if_neg h5, if_neg h6])) (GR_cons rfl rfl rfl rfl (V_move rfl rfl) (GR_cons_g rfl rfl rfl rfl rfl rfl rfl (V_move rfl rfl) (GR_cons_g rfl rfl rfl rfl rfl rfl rfl (V_eql rfl rfl rfl) (GR_cons_g rfl rfl rfl rfl rfl rfl rfl (V_move rfl rfl) (GR_cons_g rfl rfl rfl rfl rfl rfl rfl (V_len rfl Try.underlying56 rfl) (GR_cons_g rfl rfl rfl rfl rfl rfl rfl (V_gtr rfl rfl rfl) (GR_cons_g rfl rfl rfl rfl rfl rfl rfl (V_eqlBB_same rfl rfl rfl Try.underlying4 (by rw [Bool.eq_iff_iff, decide_eq_true_eq, decide_eq_true_eq]; constructor; intro q; have := (hy.2.1 q).1; omega; intro q; by_cases q2 : refuseE b l = 0; exact q2; rw [hy.2.2 q2] at q; simp at q)) (GR_cons rfl rfl rfl rfl (V_pick_t rfl rfl rfl) (GR_cons rfl rfl rfl rfl (V_move rfl rfl) (GR_cons_g rfl rfl rfl rfl rfl rfl rfl (V_loadN (vs := [_, _, _, _, _, _]) rfl rfl ag_23 sz_23 rfl (CellsAt.item rfl)) (GR_cons_g rfl rfl rfl rfl rfl rfl rfl (V_move rfl rfl) (GR_cons_g rfl rfl rfl rfl rfl rfl rfl (V_move rfl rfl) (GR_cons_g rfl rfl rfl rfl rfl rfl rfl (V_loadN (vs := [_, _, _, _, _, _]) rfl rfl ag_23 sz_23 rfl (CellsAt.item rfl)) (GR_cons_g rfl rfl rfl rfl rfl rfl rfl (V_move rfl rfl) (GR_cons_g rfl rfl rfl rfl rfl rfl rfl (V_move rfl rfl) (GR_cons_g rfl rfl rfl rfl rfl rfl rfl (V_isT (V_eql rfl rfl rfl) rfl) (GR_cons rfl rfl rfl rfl (V_pick_t rfl rfl rfl) (GR_nil))))))))))))))))))))) ?_
              refine GT_st rfl rfl rfl rfl (V_pick_t rfl rfl rfl) ?_
              refine GT_st rfl rfl rfl rfl (V_assign rfl rfl) ?_
              refine GT_nil ?_
              refine GE_ret Try.func12 rfl (fun w hw => ⟨?_, hw.nil⟩)
              rfl
            · skip
              refine GE_skip ?_
              refine GE_seq ?_
              refine GE_slots (L' := [(1, _), (2, _), (3, _), (7, _), (8, _), (11, _)]) ⟨rfl, rfl, rfl, rfl, rfl, rfl, trivial⟩ ?_
              refine GE_drawn (.st 0 (.st 1 (.st 2 (.st 3 (.st 4 (.st 5 (.st 6 (.st 7 (.st 8 (.st 9 (.st 10 (.st 11 (.st 12 (.st 13 (.st 14 (.st 16 (.st 17 (.st 18 (.ld 15 [0, 1, 2, 3, 4, 5, 6, 7, 8, 9, 10, 16, 17, 18] (.ld 19 [0, 1, 2, 3, 4, 5, 6, 7, 8, 9, 10, 12, 13, 14] (.st 20 (.st 21 (.st 22 (.ld 23 [0, 1, 2, 3, 4, 5, 6, 7, 8, 9, 10, 11, 12, 13, 14, 16, 17, 18, 20, 21] (.st 24 (.st 25 .nil)))))))))))))))))))))))))) [15, 19, 23] (by decide +kernel) ?_
              refine GT_st rfl rfl rfl rfl (V_move rfl rfl) ?_
              refine GT_st rfl rfl rfl rfl (V_move rfl rfl) ?_
              refine GT_st rfl rfl rfl rfl (V_isT (V_eql rfl rfl rfl) (by first | (exfalso; omega) | rw [hrc, if_pos h5] | rw [hrc, if_neg h5, if_pos h6] | rw [hrc, if_neg h5, if_neg h6])) ?_
              refine GT_st rfl rfl rfl rfl (V_move rfl rfl) ?_
              refine GT_st_g rfl rfl rfl rfl rfl rfl rfl (V_move rfl rfl) ?_
              refine GT_st_g rfl rfl rfl rfl rfl rfl rfl (V_eql rfl rfl rfl) ?_
              refine GT_st_g rfl rfl rfl rfl rfl rfl rfl (V_move rfl rfl) ?_
              refine GT_st_g rfl rfl rfl rfl rfl rfl rfl (V_len rfl Try.underlying56 rfl) ?_
              refine GT_st_g rfl rfl rfl rfl rfl rfl rfl (V_gtr rfl rfl rfl) ?_
              refine GT_st_g rfl rfl rfl rfl rfl rfl rfl (V_eqlBB_same rfl rfl rfl Try.underlying4 (by rw [Bool.eq_iff_iff, decide_eq_true_eq, decide_eq_true_eq]; constructor; intro q; have := (hy.2.1 q).1; omega; intro q; by_cases q2 : refuseE b l = 0; exact q2; rw [hy.2.2 q2] at q; simp at q)) ?_
              refine GT_st rfl rfl rfl rfl (V_pick_t rfl rfl rfl) ?_
              refine GT_st rfl rfl rfl rfl (V_move rfl rfl) ?_
              refine GT_st_g rfl rfl rfl rfl rfl rfl rfl (V_loadN (vs := [_, _, _, _, _, _]) rfl rfl ag_23 sz_23 rfl (CellsAt.item rfl)) ?_
              refine GT_st_g rfl rfl rfl rfl rfl rfl rfl (V_move rfl rfl) ?_
              refine GT_st_g rfl rfl rfl rfl rfl rfl rfl (V_move rfl rfl) ?_
              refine GT_st_g rfl rfl rfl rfl rfl rfl rfl (V_loadN (vs := [_, _, _, _, _, _]) rfl rfl ag_23 sz_23 rfl (CellsAt.item rfl)) ?_
              refine GT_st_g rfl rfl rfl rfl rfl rfl rfl (V_move rfl rfl) ?_
              refine GT_st_g rfl rfl rfl rfl rfl rfl rfl (V_move rfl rfl) ?_
              refine GT_call0_g rfl rfl rfl rfl rfl rfl rfl rfl rfl rfl rfl rn_35 (fun w hw => C_lathe_CheckRefusal (hp.sh hw) (hs.sh hw) (by omega)) (GR_cons rfl rfl rfl rfl (V_move rfl rfl) (GR_cons rfl rfl rfl rfl (V_move rfl rfl) (GR_cons rfl rfl rfl rfl (V_isT (V_eql rfl rfl rfl) (by first | (exfalso; omega) | rw [hrc, if_pos h5] | rw [hrc, if_neg h5, if_pos h6] | rw [hrc, if_neg h5, if_neg h6])) (GR_cons rfl rfl rfl rfl (V_move rfl rfl) (GR_cons_g rfl rfl rfl rfl rfl rfl rfl (V_move rfl rfl) (GR_cons_g rfl rfl rfl rfl rfl rfl rfl (V_eql rfl rfl rfl) (GR_cons_g rfl rfl rfl rfl rfl rfl rfl (V_move rfl rfl) (GR_cons_g rfl rfl rfl rfl rfl rfl rfl (V_len rfl Try.underlying56 rfl) (GR_cons_g rfl rfl rfl rfl rfl rfl rfl (V_gtr rfl rfl rfl) (GR_cons_g rfl rfl rfl rfl rfl rfl rfl (V_eqlBB_same rfl rfl rfl Try.underlying4 (by rw [Bool.eq_iff_iff, decide_eq_true_eq, decide_eq_true_eq]; constructor; intro q; have := (hy.2.1 q).1; omega; intro q; by_cases q2 : refuseE b l = 0; exact q2; rw [hy.2.2 q2] at q; simp at q)) (GR_cons rfl rfl rfl rfl (V_pick_t rfl rfl rfl) (GR_cons_g rfl rfl rfl rfl rfl rfl rfl (V_loadN (vs := [_, _, _, _, _, _]) rfl rfl ag_23 sz_23 rfl (CellsAt.item rfl)) (GR_cons_g rfl rfl rfl rfl rfl rfl rfl (V_move rfl rfl) (GR_cons_g rfl rfl rfl rfl rfl rfl rfl (V_move rfl rfl) (GR_nil))))))))))))))) ?_
              refine GT_call0_g rfl rfl rfl rfl rfl rfl rfl rfl rfl rfl rfl rn_36 (fun w hw => C_ref05_CheckRefusal (hp.sh hw) (hs.sh hw) (by omega)) (GR_cons rfl rfl rfl rfl (V_move rfl rfl) (GR_cons rfl rfl rfl rfl (V_move rfl rfl) (GR_cons rfl rfl rfl rfl (V_isT (V_eql rfl rfl rfl) (by first | (exfalso; omega) | rw [hrc, if_pos h5] | rw [hrc, if_neg h5, if_pos h6] | rw [hrc, if_neg h5, if_neg h6])) (GR_cons rfl rfl rfl rfl (V_move rfl rfl) (GR_cons_g rfl rfl rfl rfl rfl rfl rfl (V_move rfl rfl) (GR_cons_g rfl rfl rfl rfl rfl rfl rfl (V_eql rfl rfl rfl) (GR_cons_g rfl rfl rfl rfl rfl rfl rfl (V_move rfl rfl) (GR_cons_g rfl rfl rfl rfl rfl rfl rfl (V_len rfl Try.underlying56 rfl) (GR_cons_g rfl rfl rfl rfl rfl rfl rfl (V_gtr rfl rfl rfl) (GR_cons_g rfl rfl rfl rfl rfl rfl rfl (V_eqlBB_same rfl rfl rfl Try.underlying4 (by rw [Bool.eq_iff_iff, decide_eq_true_eq, decide_eq_true_eq]; constructor; intro q; have := (hy.2.1 q).1; omega; intro q; by_cases q2 : refuseE b l = 0; exact q2; rw [hy.2.2 q2] at q; simp at q)) (GR_cons rfl rfl rfl rfl (V_pick_t rfl rfl rfl) (GR_cons_g rfl rfl rfl rfl rfl rfl rfl (V_loadN (vs := [_, _, _, _, _, _]) rfl rfl ag_23 sz_23 rfl (CellsAt.item rfl)) (GR_cons_g rfl rfl rfl rfl rfl rfl rfl (V_move rfl rfl) (GR_cons_g rfl rfl rfl rfl rfl rfl rfl (V_move rfl rfl) (GR_nil))))))))))))))) ?_
              refine GT_st_g rfl rfl rfl rfl rfl rfl rfl (V_isT (V_eql rfl rfl rfl) rfl) ?_
              refine GT_st rfl rfl rfl rfl (V_pick_t rfl rfl rfl) ?_
              refine GT_st rfl rfl rfl rfl (V_move rfl rfl) ?_
              refine GT_call0_g rfl rfl rfl rfl rfl rfl rfl rfl rfl rfl rfl rn_16 (fun w hw => C_law05_Works) (GR_cons rfl rfl rfl rfl (V_move rfl rfl) (GR_cons rfl rfl rfl rfl (V_move rfl rfl) (GR_cons rfl rfl rfl rfl (V_isT (V_eql rfl rfl rfl) (by first | (exfalso; omega) | rw [hrc, if_pos h5] | rw [hrc, if_neg h5, if_pos h6] | rw [hrc, if_neg h5, if_neg h6])) (GR_cons rfl rfl rfl rfl (V_move rfl rfl) (GR_cons_g rfl rfl rfl rfl rfl rfl rfl (V_move rfl rfl) (GR_cons_g rfl rfl rfl rfl rfl rfl rfl (V_eql rfl rfl rfl) (GR_cons_g rfl rfl rfl rfl rfl rfl rfl (V_move rfl rfl) (GR_cons_g rfl rfl rfl rfl rfl rfl rfl (V_len rfl Try.underlying56 rfl) (GR_cons_g rfl rfl rfl rfl rfl rfl rfl (V_gtr rfl rfl rfl) (GR_cons_g rfl rfl rfl rfl rfl rfl rfl (V_eqlBB_same rfl rfl rfl Try.underlying4 (by rw [Bool.eq_iff_iff, decide_eq_true_eq, decide_eq_true_eq]; constructor; intro q; have := (hy.2.1 q).1; omega; intro q; by_cases q2 : refuseE b l = 0; exact q2; rw [hy.2.2 q2] at q; simp at q)) (GR_cons rfl rfl rfl rfl (V_pick_t rfl rfl rfl) (GR_cons rfl rfl rfl rfl (V_move rfl rfl) (GR_cons_g rfl rfl rfl rfl rfl rfl rfl (V_loadN (vs := [_, _, _, _, _, _]) rfl rfl ag_23 sz_23 rfl (CellsAt.item rfl)) (GR_cons_g rfl rfl rfl rfl rfl rfl rfl (V_move rfl rfl) (GR_cons_g rfl rfl rfl rfl rfl rfl rfl (V_move rfl rfl) (GR_cons_g rfl rfl rfl rfl rfl rfl rfl (V_loadN (vs := [_, _, _, _, _, _]) rfl rfl ag_23 sz_23 rfl (CellsAt.item rfl)) (GR_cons_g rfl rfl rfl rfl rfl rfl rfl (V_move rfl rfl) (GR_cons_g rfl rfl rfl rfl rfl rfl rfl (V_move rfl rfl) (GR_cons_g rfl rfl rfl rfl rfl rfl rfl (V_isT (V_eql rfl rfl rfl) rfl) (GR_cons rfl rfl rfl rfl (V_pick_t rfl rfl rfl) (GR_nil))))))))))))))))))))) ?_
              refine GT_st rfl rfl rfl rfl (V_pick_t rfl rfl rfl) ?_
              refine GT_st rfl rfl rfl rfl (V_assign rfl rfl) ?_
              refine GT_nil ?_
              refine GE_ret Try.func12 rfl (fun w hw => ⟨?_, hw.nil⟩)
              rfl
    · skip
      refine GT_skip rfl rfl rfl rfl rfl (by decide) rfl rfl ?_
      refine GT_skip rfl rfl rfl rfl rfl (by decide) rfl rfl ?_
      refine GT_skip rfl rfl rfl rfl rfl (by decide) rfl rfl ?_
      refine GT_st_g rfl rfl rfl rfl rfl rfl rfl (V_pick_f rfl rfl rfl) ?_
      refine GT_st rfl rfl rfl rfl (V_pick_f rfl rfl rfl) ?_
      refine GT_st rfl rfl rfl rfl (V_move rfl rfl) ?_
      refine GT_st_g rfl rfl rfl rfl rfl rfl rfl (V_move rfl rfl) ?_
      refine GT_st_g rfl rfl rfl rfl rfl rfl rfl (V_len rfl Try.underlying56 rfl) ?_
      refine GT_st_g rfl rfl rfl rfl rfl rfl rfl (V_gtr rfl rfl rfl) ?_
      refine GT_st rfl rfl rfl rfl (V_pick_f rfl rfl rfl) ?_
      refine GT_nil ?_
      first | refine GE_condNot rfl (fun h4 => ?_) (fun h4 => ?_) | refine GE_cond rfl (fun h4 => ?_) (fun h4 => ?_) | refine GE_condNotB rfl (fun h4 => ?_) (fun h4 => ?_) | refine GE_condB rfl (fun h4 => ?_) (fun h4 => ?_)
      · skip
        refine GE_seq ?_
        refine GE_slots (L' := []) trivial ?_
        refine GE_plain (.ld 0 [] (.st 1 .nil)) rfl ?_
        refine GT_call0 rfl rfl rfl rfl rfl rfl rfl rfl rn_16 (fun w hw => C_law05_Works) (GR_nil) ?_
        refine GT_st rfl rfl rfl rfl (V_assign rfl rfl) ?_
        refine GT_nil ?_
        refine GE_ret Try.func12 rfl (fun w hw => ⟨?_, hw.nil⟩)
        rfl
      · skip
        refine GE_skip ?_
        refine GE_seq ?_
        refine GE_slots (L' := [(1, _), (2, _), (3, _)]) ⟨rfl, rfl, rfl, trivial⟩ ?_
        refine GE_plain (.st 0 (.st 1 (.ld 2 [] (.st 3 (.st 4 (.st 5 (.st 6 (.st 7 .nil)))))))) rfl ?_
        refine GT_st rfl rfl rfl rfl (V_loadN (vs := [_, _, _, _, _, _]) rfl rfl ag_23 sz_23 rfl (CellsAt.item rfl)) ?_
        refine GT_st rfl rfl rfl rfl (V_move rfl rfl) ?_
        refine GT_call rfl rfl rfl rfl rfl rfl rfl rfl rn_34 (fun w hw => C_lathe_Refuse (hp.sh hw)) (fun _ _ => GR_nil) (fun y hy => ?_)
        refine GT_st rfl rfl rfl rfl (V_move rfl rfl) ?_
        refine GT_st rfl rfl rfl rfl (V_extract rfl rfl rfl) ?_
        refine GT_st rfl rfl rfl rfl (V_extract rfl rfl rfl) ?_
        refine GT_st rfl rfl rfl rfl (V_assign rfl rfl) ?_
        refine GT_st rfl rfl rfl rfl (V_assign rfl rfl) ?_
        refine GT_nil ?_
        refine GE_seq ?_
        refine GE_slots (L' := [(1, _), (2, _), (3, _), (7, _), (8, _)]) ⟨rfl, rfl, rfl, rfl, rfl, trivial⟩ ?_
        refine GE_plain (.st 0 (.st 1 (.ld 2 [] (.st 3 (.st 4 (.st 5 (.st 6 (.st 7 .nil)))))))) rfl ?_
        refine GT_st rfl rfl rfl rfl (V_loadN (vs := [_, _, _, _, _, _]) rfl rfl ag_23 sz_23 rfl (CellsAt.item rfl)) ?_
        refine GT_st rfl rfl rfl rfl (V_move rfl rfl) ?_
        refine GT_call rfl rfl rfl rfl rfl rfl rfl rfl rn_18 (fun w hw => C_ref05_Outermost (hp.sh hw)) (fun _ _ => GR_nil) (fun z hz => ?_)
        refine GT_st rfl rfl rfl rfl (V_move rfl rfl) ?_
        refine GT_st rfl rfl rfl rfl (V_extract rfl rfl rfl) ?_
        refine GT_st rfl rfl rfl rfl (V_extract rfl rfl rfl) ?_
        refine GT_st rfl rfl rfl rfl (V_assign rfl rfl) ?_
        refine GT_st rfl rfl rfl rfl (V_assign rfl rfl) ?_
        refine GT_nil ?_
        refine GE_seq ?_
        refine GE_slots (L' := [(1, _), (2, _), (3, _), (7, _), (8, _), (10, _)]) ⟨rfl, rfl, rfl, rfl, rfl, rfl, trivial⟩ ?_
        refine GE_plain (.st 0 (.st 1 .nil)) rfl ?_
        refine GT_st rfl rfl rfl rfl (V_move rfl rfl) ?_
        refine GT_st rfl rfl rfl rfl (V_assign rfl rfl) ?_
        refine GT_nil ?_
        refine GE_seq ?_
        refine GE_seq ?_
        refine GE_plain (.st 0 (.st 1 .nil)) rfl ?_
        refine GT_st rfl rfl rfl rfl (V_move rfl rfl) ?_
        refine GT_st rfl rfl rfl rfl (V_eql rfl rfl rfl) ?_
        refine GT_nil ?_
        first | refine GE_condNot rfl (fun h5 => ?_) (fun h5 => ?_) | refine GE_cond rfl (fun h5 => ?_) (fun h5 => ?_) | refine GE_condNotB rfl (fun h5 => ?_) (fun h5 => ?_) | refine GE_condB rfl (fun h5 => ?_) (fun h5 => ?_)
        · skip
          refine GE_slots (L' := [(1, _), (2, _), (3, _), (7, _), (8, _), (10, _)]) ⟨rfl, rfl, rfl, rfl, rfl, rfl, trivial⟩ ?_
          refine GE_plain (.st 0 .nil) rfl ?_
          refine GT_st rfl rfl rfl rfl (V_assign rfl rfl) ?_
          refine GT_nil ?_
          refine GE_seq ?_
          refine GE_seq ?_
          refine GE_plain (.st 0 (.st 1 .nil)) rfl ?_
          refine GT_st rfl rfl rfl rfl (V_move rfl rfl) ?_
          refine GT_st rfl rfl rfl rfl (V_eql rfl rfl rfl) ?_
          refine GT_nil ?_
          first | refine GE_condNot rfl (fun h6 => ?_) (fun h6 => ?_) | refine GE_cond rfl (fun h6 => ?_) (fun h6 => ?_) | refine GE_condNotB rfl (fun h6 => ?_) (fun h6 => ?_) | refine GE_condB rfl (fun h6 => ?_) (fun h6 => ?_)
          · skip
            refine GE_slots (L' := [(1, _), (2, _), (3, _), (7, _), (8, _)]) ⟨rfl, rfl, rfl, rfl, rfl, trivial⟩ ?_
            refine GE_plain (.st 0 .nil) rfl ?_
            refine GT_st rfl rfl rfl rfl (V_assign rfl rfl) ?_
            refine GT_nil ?_
            refine GE_seq ?_
            refine GE_drawn (.st 0 (.st 1 (.st 2 (.st 3 (.st 4 (.st 5 (.st 6 (.st 7 (.st 8 (.st 9 (.st 10 (.st 11 (.st 12 (.st 13 (.st 14 (.st 16 (.st 17 (.st 18 (.ld 15 [0, 1, 2, 3, 4, 5, 6, 7, 8, 9, 10, 16, 17, 18] (.ld 19 [0, 1, 2, 3, 4, 5, 6, 7, 8, 9, 10, 12, 13, 14] (.st 20 (.st 21 (.st 22 (.ld 23 [0, 1, 2, 3, 4, 5, 6, 7, 8, 9, 10, 11, 12, 13, 14, 16, 17, 18, 20, 21] (.st 24 (.st 25 .nil)))))))))))))))))))))))))) [15, 19, 23] (by decide +kernel) ?_
            refine GT_st rfl rfl rfl rfl (V_move rfl rfl) ?_
            refine GT_st rfl rfl rfl rfl (V_move rfl rfl) ?_
            refine GT_st rfl rfl rfl rfl (V_isT (V_eql rfl rfl rfl) (by first | (exfalso; omega) | rw [hrc, if_pos h5] | rw [hrc, if_neg h5, if_pos h6] | rw [hrc, if_neg h5, if_neg h6])) ?_
            refine GT_st rfl rfl rfl rfl (V_move rfl rfl) ?_
            refine GT_st_g rfl rfl rfl rfl rfl rfl rfl (V_move rfl rfl) ?_
            refine GT_st_g rfl rfl rfl rfl rfl rfl rfl (V_eql rfl rfl rfl) ?_
            refine GT_st_g rfl rfl rfl rfl rfl rfl rfl (V_move rfl rfl) ?_
            refine GT_st_g rfl rfl rfl rfl rfl rfl rfl (V_len rfl Try.underlying56 rfl) ?_
            refine GT_st_g rfl rfl rfl rfl rfl rfl rfl (V_gtr rfl rfl rfl) ?_
            refine GT_st_g rfl rfl rfl rfl rfl rfl rfl (V_eqlBB_same rfl rfl rfl Try.underlying4 (by rw [Bool.eq_iff_iff, decide_eq_true_eq, decide_eq_true_eq]; constructor; intro q; have := (hy.2.1 q).1; omega; intro q; by_cases q2 : refuseE b l = 0; exact q2; rw [hy.2.2 q2] at q; simp at q)) ?_
            refine GT_st rfl rfl rfl rfl (V_pick_t rfl rfl rfl) ?_
            refine GT_st rfl rfl rfl rfl (V_move rfl rfl) ?_
            refine GT_st_g rfl rfl rfl rfl rfl rfl rfl (V_loadN (vs := [_, _, _, _, _, _]) rfl rfl ag_23 sz_23 rfl (CellsAt.item rfl)) ?_
            refine GT_st_g rfl rfl rfl rfl rfl rfl rfl (V_move rfl rfl) ?_
            refine GT_st_g rfl rfl rfl rfl rfl rfl rfl (V_move rfl rfl) ?_
            refine GT_st_g rfl rfl rfl rfl rfl rfl rfl (V_loadN (vs := [_, _, _, _, _, _]) rfl rfl ag_23 sz_23 rfl (CellsAt.item rfl)) ?_
            refine GT_st_g rfl rfl rfl rfl rfl rfl rfl (V_move rfl rfl) ?_
            refine GT_st_g rfl rfl rfl rfl rfl rfl rfl (V_move rfl rfl) ?_
            refine GT_call0_g rfl rfl rfl rfl rfl rfl rfl rfl rfl rfl rfl rn_35 (fun w hw => C_lathe_CheckRefusal (hp.sh hw) (hs.sh hw) (by omega)) (GR_cons rfl rfl rfl rfl (V_move rfl rfl) (GR_cons rfl rfl rfl rfl (V_move rfl rfl) (GR_cons rfl rfl rfl rfl (V_isT (V_eql rfl rfl rfl) (by first | (exfalso; omega) | rw [hrc, if_pos h5] | rw [hrc, if_neg h5, if_pos h6] | rw [hrc, if_neg h5, if_neg h6])) (GR_cons rfl rfl rfl rfl (V_move rfl rfl) (GR_cons_g rfl rfl rfl rfl rfl rfl rfl (V_move rfl rfl) (GR_cons_g rfl rfl rfl rfl rfl rfl rfl (V_eql rfl rfl rfl) (GR_cons_g rfl rfl rfl rfl rfl rfl rfl (V_move rfl rfl) (GR_cons_g rfl rfl rfl rfl rfl rfl rfl (V_len rfl Try.underlying56 rfl) (GR_cons_g rfl rfl rfl rfl rfl rfl rfl (V_gtr rfl rfl rfl) (GR_cons_g rfl rfl rfl rfl rfl rfl rfl (V_eqlBB_same rfl rfl rfl Try.underlying4 (by rw [Bool.eq_iff_iff, decide_eq_true_eq, decide_eq_true_eq]; constructor; intro q; have := (hy.2.1 q).1; omega; intro q; by_cases q2 : refuseE b l = 0; exact q2; rw [hy.2.2 q2] at q; simp at q)) (GR_cons rfl rfl rfl rfl (V_pick_t rfl rfl rfl) (GR_cons_g rfl rfl rfl rfl rfl rfl rfl (V_loadN (vs := [_, _, _, _, _, _]) rfl rfl ag_23 sz_23 rfl (CellsAt.item rfl)) (GR_cons_g rfl rfl rfl rfl rfl rfl rfl (V_move rfl rfl) (GR_cons_g rfl rfl rfl rfl rfl rfl rfl (V_move rfl rfl) (GR_nil))))))))))))))) ?_
            refine GT_call0_g rfl rfl rfl rfl rfl rfl rfl rfl rfl rfl rfl rn_36 (fun w hw => C_ref05_CheckRefusal (hp.sh hw) (hs.sh hw) (by omega)) (GR_cons rfl rfl rfl rfl (V_move rfl rfl) (GR_cons rfl rfl rfl rfl (V_move rfl rfl) (GR_cons rfl rfl rfl rfl (V_isT (V_eql rfl rfl rfl) (by first | (exfalso; omega) | rw [hrc, if_pos h5] | rw [hrc, if_neg h5, if_pos h6] | rw [hrc, if_neg h5, if_neg h6])) (GR_cons rfl rfl rfl rfl (V_move rfl rfl) (GR_cons_g rfl rfl rfl rfl rfl rfl rfl (V_move rfl rfl) (GR_cons_g rfl rfl rfl rfl rfl rfl rfl (V_eql rfl rfl rfl) (GR_cons_g rfl rfl rfl rfl rfl rfl rfl (V_move rfl rfl) (GR_cons_g rfl rfl rfl rfl rfl rfl rfl (V_len rfl Try.underlying56 rfl) (GR_cons_g rfl rfl rfl rfl rfl rfl rfl (V_gtr rfl rfl rfl) (GR_cons_g rfl rfl rfl rfl rfl rfl rfl (V_eqlBB_same rfl rfl rfl Try.underlying4 (by rw [Bool.eq_iff_iff, decide_eq_true_eq, decide_eq_true_eq]; constructor; intro q; have := (hy.2.1 q).1; omega; intro q; by_cases q2 : refuseE b l = 0; exact q2; rw [hy.2.2 q2] at q; simp at q)) (GR_cons rfl rfl rfl rfl (V_pick_t rfl rfl rfl) (GR_cons_g rfl rfl rfl rfl rfl rfl rfl (V_loadN (vs := [_, _, _, _, _, _]) rfl rfl ag_23 sz_23 rfl (CellsAt.item rfl)) (GR_cons_g rfl rfl rfl rfl rfl rfl rfl (V_move rfl rfl) (GR_cons_g rfl rfl rfl rfl rfl rfl rfl (V_move rfl rfl) (GR_nil))))))))))))))) ?_
            refine GT_st_g rfl rfl rfl rfl rfl rfl rfl (V_isT (V_eql rfl rfl rfl) rfl) ?_
            refine GT_st rfl rfl rfl rfl (V_pick_t rfl rfl rfl) ?_
            refine GT_st rfl rfl rfl rfl (V_move rfl rfl) ?_
            refine GT_call0_g rfl rfl rfl rfl rfl rfl rfl rfl rfl rfl rfl rn_16 (fun w hw => C_law05_Works) (GR_cons rfl rfl rfl rfl (V_move rfl rfl) (GR_cons rfl rfl rfl rfl (V_move rfl rfl) (GR_cons rfl rfl rfl rfl (V_isT (V_eql rfl rfl rfl) (by first | (exfalso; omega) | rw [hrc, if_pos h5] | rw [hrc, if_neg h5, if_pos h6] | rw [hrc, if_neg h5, if_neg h6])) (GR_cons rfl rfl rfl rfl (V_move rfl rfl) (GR_cons_g rfl rfl rfl rfl rfl rfl rfl (V_move rfl rfl) (GR_cons_g rfl rfl rfl rfl rfl rfl rfl (V_eql rfl rfl rfl) (GR_cons_g rfl rfl rfl rfl rfl rfl rfl (V_move rfl rfl) (GR_cons_g rfl rfl rfl rfl rfl rfl rfl (V_len rfl Try.underlying56 rfl) (GR_cons_g rfl rfl rfl rfl rfl rfl rfl (V_gtr rfl rfl rfl) (GR_cons_g rfl rfl rfl rfl rfl rfl rfl (V_eqlBB_same rfl rfl rfl Try.underlying4 (by rw [Bool.eq_iff_iff, decide_eq_true_eq, decide_eq_true_eq]; constructor; intro q; have := (hy.2.1 q).1; omega; intro q; by_cases q2 : refuseE b l = 0; exact q2; rw [hy.2.2 q2] at q; simp at q)) (GR_cons rfl rfl rfl rfl (V_pick_t rfl rfl rfl) (GR_cons rfl rfl rfl rfl (V_move rfl rfl) (GR_cons_g rfl rfl rfl rfl rfl rfl rfl (V_loadN (vs := [_, _, _, _, _, _]) rfl rfl ag_23 sz_23 rfl (CellsAt.item rfl)) (GR_cons_g rfl rfl rfl rfl rfl rfl rfl (V_move rfl rfl) (GR_cons_g rfl rfl rfl rfl rfl rfl rfl (V_move rfl rfl) (GR_cons_g rfl rfl rfl rfl rfl rfl rfl (V_loadN (vs := [_, _, _, _, _, _]) rfl rfl ag_23 sz_23 rfl (CellsAt.item rfl)) (GR_cons_g rfl rfl rfl rfl rfl rfl rfl (V_move rfl rfl) (GR_cons_g rfl rfl rfl rfl rfl rfl rfl (V_move rfl rfl) (GR_cons_g rfl rfl rfl rfl rfl rfl rfl (V_isT (V_eql rfl rfl rfl) rfl) (GR_cons rfl rfl rfl rfl (V_pick_t rfl rfl rfl) (GR_nil))))))))))))))))))))) ?_
            refine GT_st rfl rfl rfl rfl (V_pick_t rfl rfl rfl) ?_
            refine GT_st rfl rfl rfl rfl (V_assign rfl rfl) ?_
            refine GT_nil ?_
            refine GE_ret Try.func12 rfl (fun w hw => ⟨?_, hw.nil⟩)
            rfl
          · skip
            refine GE_skip ?_
            refine GE_seq ?_
            refine GE_drawn (.st 0 (.st 1 (.st 2 (.st 3 (.st 4 (.st 5 (.st 6 (.st 7 (.st 8 (.st 9 (.st 10 (.st 11 (.st 12 (.st 13 (.st 14 (.st 16 (.st 17 (.st 18 (.ld 15 [0, 1, 2, 3, 4, 5, 6, 7, 8, 9, 10, 16, 17, 18] (.ld 19 [0, 1, 2, 3, 4, 5, 6, 7, 8, 9, 10, 12, 13, 14] (.st 20 (.st 21 (.st 22 (.ld 23 [0, 1, 2, 3, 4, 5, 6, 7, 8, 9, 10, 11, 12, 13, 14, 16, 17, 18, 20, 21] (.st 24 (.st 25 .nil)))))))))))))))))))))))))) [15, 19, 23] (by decide +kernel) ?_
            refine GT_st rfl rfl rfl rfl (V_move rfl rfl) ?_
            refine GT_st rfl rfl rfl rfl (V_move rfl rfl) ?_
            refine GT_st rfl rfl rfl rfl (V_isT (V_eql rfl rfl rfl) (by first | (exfalso; omega) | rw [hrc, if_pos h5] | rw [hrc, if_neg h5, if_pos h6] | rw [hrc, if_neg h5, if_neg h6])) ?_
            refine GT_st rfl rfl rfl rfl (V_move rfl rfl) ?_
            refine GT_st_g rfl rfl rfl rfl rfl rfl rfl (V_move rfl rfl) ?_
            refine GT_st_g rfl rfl rfl rfl rfl rfl rfl (V_eql rfl rfl rfl) ?_
            refine GT_st_g rfl rfl rfl rfl rfl rfl rfl (V_move rfl rfl) ?_
            refine GT_st_g rfl rfl rfl rfl rfl rfl rfl (V_len rfl Try.underlying56 rfl) ?_
            refine GT_st_g rfl rfl rfl rfl rfl rfl rfl (V_gtr rfl rfl rfl) ?_
            refine GT_st_g rfl rfl rfl rfl rfl rfl rfl (V_eqlBB_same rfl rfl rfl Try.underlying4 (by rw [Bool.eq_iff_iff, decide_eq_true_eq, decide_eq_true_eq]; constructor; intro q; have := (hy.2.1 q).1; omega; intro q; by_cases q2 : refuseE b l = 0; exact q2; rw [hy.2.2 q2] at q; simp at q)) ?_
            refine GT_st rfl rfl rfl rfl (V_pick_t rfl rfl rfl) ?_
            refine GT_st rfl rfl rfl rfl (V_move rfl rfl) ?_
            refine GT_st_g rfl rfl rfl rfl rfl rfl rfl (V_loadN (vs := [_, _, _, _, _, _]) rfl rfl ag_23 sz_23 rfl (CellsAt.item rfl)) ?_
            refine GT_st_g rfl rfl rfl rfl rfl rfl rfl (V_move rfl rfl) ?_
            refine GT_st_g rfl rfl rfl rfl rfl rfl rfl (V_move rfl rfl) ?_
            refine GT_st_g rfl rfl rfl rfl rfl rfl rfl (V_loadN (vs := [_, _, _, _, _, _]) rfl rfl ag_23 sz_23 rfl (CellsAt.item rfl)) ?_
            refine GT_st_g rfl rfl rfl rfl rfl rfl rfl (V_move rfl rfl) ?_
            refine GT_st_g rfl rfl rfl rfl rfl rfl rfl (V_move rfl rfl) ?_
            refine GT_call0_g rfl rfl rfl rfl rfl rfl rfl rfl rfl rfl rfl rn_35 (fun w hw => C_lathe_CheckRefusal (hp.sh hw) (hs.sh hw) (by omega)) (GR_cons rfl rfl rfl rfl (V_move rfl rfl) (GR_cons rfl rfl rfl rfl (V_move rfl rfl) (GR_cons rfl rfl rfl rfl (V_isT (V_eql rfl rfl rfl) (by first | (exfalso; omega) | rw [hrc, if_pos h5] | rw [hrc, if_neg h5, if_pos h6] | rw [hrc, if_neg h5, if_neg h6])) (GR_cons rfl rfl rfl rfl (V_move rfl rfl) (GR_cons_g rfl rfl rfl rfl rfl rfl rfl (V_move rfl rfl) (GR_cons_g rfl rfl rfl rfl rfl rfl rfl (V_eql rfl rfl rfl) (GR_cons_g rfl rfl rfl rfl rfl rfl rfl (V_move rfl rfl) (GR_cons_g rfl rfl rfl rfl rfl rfl rfl (V_len rfl Try.underlying56 rfl) (GR_cons_g rfl rfl rfl rfl rfl rfl rfl (V_gtr rfl rfl rfl) (GR_cons_g rfl rfl rfl rfl rfl rfl rfl (V_eqlBB_same rfl rfl rfl Try.underlying4 (by rw [Bool.eq_iff_iff, decide_eq_true_eq, decide_eq_true_eq]; constructor; intro q; have := (hy.2.1 q).1; omega; intro q; by_cases q2 : refuseE b l = 0; exact q2; rw [hy.2.2 q2] at q; simp at q)) (GR_cons rfl rfl rfl rfl (V_pick_t rfl rfl rfl) (GR_cons_g rfl rfl rfl rfl rfl rfl rfl (V_loadN (vs := [_, _, _, _, _, _]) rfl rfl ag_23 sz_23 rfl (CellsAt.item rfl)) (GR_cons_g rfl rfl rfl rfl rfl rfl rfl (V_move rfl rfl) (GR_cons_g rfl rfl rfl rfl rfl rfl rfl (V_move rfl rfl) (GR_nil))))))))))))))) ?_
            refine GT_call0_g rfl rfl rfl rfl rfl rfl rfl rfl rfl rfl rfl rn_36 (fun w hw => C_ref05_CheckRefusal (hp.sh hw) (hs.sh hw) (by omega)) (GR_cons rfl rfl rfl rfl (V_move rfl rfl) (GR_cons rfl rfl rfl rfl (V_move rfl rfl) (GR_cons rfl rfl rfl rfl (V_isT (V_eql rfl rfl rfl) (by first | (exfalso; omega) | rw [hrc, if_pos h5] | rw [hrc, if_neg h5, if_pos h6] | rw [hrc, if_neg h5, if_neg h6])) (GR_cons rfl rfl rfl rfl (V_move rfl rfl) (GR_cons_g rfl rfl rfl rfl rfl rfl rfl (V_move rfl rfl) (GR_cons_g rfl rfl rfl rfl rfl rfl rfl (V_eql rfl rfl rfl) (GR_cons_g rfl rfl rfl rfl rfl rfl rfl (V_move rfl rfl) (GR_cons_g rfl rfl rfl rfl rfl rfl rfl (V_len rfl Try.underlying56 rfl) (GR_cons_g rfl rfl rfl rfl rfl rfl rfl (V_gtr rfl rfl rfl) (GR_cons_g rfl rfl rfl rfl rfl rfl rfl (V_eqlBB_same rfl rfl rfl Try.underlying4 (by rw [Bool.eq_iff_iff, decide_eq_true_eq, decide_eq_true_eq]; constructor; intro q; have := (hy.2.1 q).1; omega; intro q; by_cases q2 : refuseE b l = 0; exact q2; rw [hy.2.2 q2] at q; simp at q)) (GR_cons rfl rfl rfl rfl (V_pick_t rfl rfl rfl) (GR_cons_g rfl rfl rfl rfl rfl rfl rfl (V_loadN (vs := [_, _, _, _, _, _]) rfl rfl ag_23 sz_23 rfl (CellsAt.item rfl)) (GR_cons_g rfl rfl rfl rfl rfl rfl rfl (V_move rfl rfl) (GR_cons_g rfl rfl rfl rfl rfl rfl rfl (V_move rfl rfl) (GR_nil))))))))))))))) ?_
            refine GT_st_g rfl rfl rfl rfl rfl rfl rfl (V_isT (V_eql rfl rfl rfl) rfl) ?_
            refine GT_st rfl rfl rfl rfl (V_pick_t rfl rfl rfl) ?_
            refine GT_st rfl rfl rfl rfl (V_move rfl rfl) ?_
            refine GT_call0_g rfl rfl rfl rfl rfl rfl rfl rfl rfl rfl rfl rn_16 (fun w hw => C_law05_Works) (GR_cons rfl rfl rfl rfl (V_move rfl rfl) (GR_cons rfl rfl rfl rfl (V_move rfl rfl) (GR_cons rfl rfl rfl rfl (V_isT (V_eql rfl rfl rfl) (by first | (exfalso; omega) | rw [hrc, if_pos h5] | rw [hrc, if_neg h5, if_pos h6] | rw [hrc, if_neg h5, if_neg h6])) (GR_cons rfl rfl rfl rfl (V_move rfl rfl) (GR_cons_g rfl rfl rfl rfl rfl rfl rfl (V_move rfl rfl) (GR_cons_g rfl rfl rfl rfl rfl rfl rfl (V_eql rfl rfl rfl) (GR_cons_g rfl rfl rfl rfl rfl rfl rfl (V_move rfl rfl) (GR_cons_g rfl rfl rfl rfl rfl rfl rfl (V_len rfl Try.underlying56 rfl) (GR_cons_g rfl rfl rfl rfl rfl rfl rfl (V_gtr rfl rfl rfl) (GR_cons_g rfl rfl rfl rfl rfl rfl rfl (V_eqlBB_same rfl rfl rfl Try.underlying4 (by rw [Bool.eq_iff_iff, decide_eq_true_eq, decide_eq_true_eq]; constructor; intro q; have := (hy.2.1 q).1; omega; intro q; by_cases q2 : refuseE b l = 0; exact q2; rw [hy.2.2 q2] at q; simp at q)) (GR_cons rfl rfl rfl rfl (V_pick_t rfl rfl rfl) (GR_cons rfl rfl rfl rfl (V_move rfl rfl) (GR_cons_g rfl rfl rfl rfl rfl rfl rfl (V_loadN (vs := [_, _, _, _, _, _]) rfl rfl ag_23 sz_23 rfl (CellsAt.item rfl)) (GR_cons_g rfl rfl rfl rfl rfl rfl rfl (V_move rfl rfl) (GR_cons_g rfl rfl rfl rfl rfl rfl rfl (V_move rfl rfl) (GR_cons_g rfl rfl rfl rfl rfl rfl rfl (V_loadN (vs := [_, _, _, _, _, _]) rfl rfl ag_23 sz_23 rfl (CellsAt.item rfl)) (GR_cons_g rfl rfl rfl rfl rfl rfl rfl (V_move rfl rfl) (GR_cons_g rfl rfl rfl rfl rfl rfl rfl (V_move rfl rfl) (GR_cons_g rfl rfl rfl rfl rfl rfl rfl (V_isT (V_eql rfl rfl rfl) rfl) (GR_cons rfl rfl rfl rfl (V_pick_t rfl rfl rfl) (GR_nil))))))))))))))))))))) ?_
            refine GT_st rfl rfl rfl rfl (V_pick_t rfl rfl rfl) ?_
            refine GT_st rfl rfl rfl rfl (V_assign rfl rfl) ?_
            refine GT_nil ?_
            refine GE_ret Try.func12 rfl (fun w hw => ⟨?_, hw.nil⟩)
            rfl
        · skip
          refine GE_skip ?_
          refine GE_seq ?_
          refine GE_seq ?_
          refine GE_plain (.st 0 (.st 1 .nil)) rfl ?_
          refine GT_st rfl rfl rfl rfl (V_move rfl rfl) ?_
          refine GT_st rfl rfl rfl rfl (V_eql rfl rfl rfl) ?_
          refine GT_nil ?_
          first | refine GE_condNot rfl (fun h6 => ?_) (fun h6 => ?_) | refine GE_cond rfl (fun h6 => ?_) (fun h6 => ?_) | refine GE_condNotB rfl (fun h6 => ?_) (fun h6 => ?_) | refine GE_condB rfl (fun h6 => ?_) (fun h6 => ?_)
          · skip
            refine GE_slots (L' := [(1, _), (2, _), (3, _), (7, _), (8, _)]) ⟨rfl, rfl, rfl, rfl, rfl, trivial⟩ ?_
            refine GE_plain (.st 0 .nil) rfl ?_
            refine GT_st rfl rfl rfl rfl (V_assign rfl rfl) ?_
            refine GT_nil ?_
            refine GE_seq ?_
            refine GE_drawn (.st 0 (.st 1 (.st 2 (.st 3 (.st 4 (.st 5 (.st 6 (.st 7 (.st 8 (.st 9 (.st 10 (.st 11 (.st 12 (.st 13 (.st 14 (.st 16 (.st 17 (.st 18 (.ld 15 [0, 1, 2, 3, 4, 5, 6, 7, 8, 9, 10, 16, 17, 18] (.ld 19 [0, 1, 2, 3, 4, 5, 6, 7, 8, 9, 10, 12, 13, 14] (.st 20 (.st 21 (.st 22 (.ld 23 [0, 1, 2, 3, 4, 5, 6, 7, 8, 9, 10, 11, 12, 13, 14, 16, 17, 18, 20, 21] (.st 24 (.st 25 .nil)))))))))))))))))))))))))) [15, 19, 23] (by decide +kernel) ?_
            refine GT_st rfl rfl rfl rfl (V_move rfl rfl) ?_
            refine GT_st rfl rfl rfl rfl (V_move rfl rfl) ?_
            refine GT_st rfl rfl rfl rfl (V_isT (V_eql rfl rfl rfl) (by first | (exfalso; omega) | rw [hrc, if_pos h5] | rw [hrc, if_neg h5, if_pos h6] | rw [hrc, if_neg h5, if_neg h6])) ?_
            refine GT_st rfl rfl rfl rfl (V_move rfl rfl) ?_
            refine GT_st_g rfl rfl rfl rfl rfl rfl rfl (V_move rfl rfl) ?_
            refine GT_st_g rfl rfl rfl rfl rfl rfl rfl (V_eql rfl rfl rfl) ?_
            refine GT_st_g rfl rfl rfl rfl rfl rfl rfl (V_move rfl rfl) ?_
            refine GT_st_g rfl rfl rfl rfl rfl rfl rfl (V_len rfl Try.underlying56 rfl) ?_
            refine GT_st_g rfl rfl rfl rfl rfl rfl rfl (V_gtr rfl rfl rfl) ?_
            refine GT_st_g rfl rfl rfl rfl rfl rfl rfl (V_eqlBB_same rfl rfl rfl Try.underlying4 (by rw [Bool.eq_iff_iff, decide_eq_true_eq, decide_eq_true_eq]; constructor; intro q; have := (hy.2.1 q).1; omega; intro q; by_cases q2 : refuseE b l = 0; exact q2; rw [hy.2.2 q2] at q; simp at q)) ?_
            refine GT_st rfl rfl rfl rfl (V_pick_t rfl rfl rfl) ?_
            refine GT_st rfl rfl rfl rfl (V_move rfl rfl) ?_
            refine GT_st_g rfl rfl rfl rfl rfl rfl rfl (V_loadN (vs := [_, _, _, _, _, _]) rfl rfl ag_23 sz_23 rfl (CellsAt.item rfl)) ?_
            refine GT_st_g rfl rfl rfl rfl rfl rfl rfl (V_move rfl rfl) ?_
            refine GT_st_g rfl rfl rfl rfl rfl rfl rfl (V_move rfl rfl) ?_
            refine GT_st_g rfl rfl rfl rfl rfl rfl rfl (V_loadN (vs := [_, _, _, _, _, _]) rfl rfl ag_23 sz_23 rfl (CellsAt.item rfl)) ?_
            refine GT_st_g rfl rfl rfl rfl rfl rfl rfl (V_move rfl rfl) ?_
            refine GT_st_g rfl rfl rfl rfl rfl rfl rfl (V_move rfl rfl) ?_
            refine GT_call0_g rfl rfl rfl rfl rfl rfl rfl rfl rfl rfl rfl rn_35 (fun w hw => C_lathe_CheckRefusal (hp.sh hw) (hs.sh hw) (by omega)) (GR_cons rfl rfl rfl rfl (V_move rfl rfl) (GR_cons rfl rfl rfl rfl (V_move rfl rfl) (GR_cons rfl rfl rfl rfl (V_isT (V_eql rfl rfl rfl) (by first | (exfalso; omega) | rw [hrc, if_pos h5] | rw [hrc, if_neg h5, if_pos h6] | rw [hrc, if_neg h5, if_neg h6])) (GR_cons rfl rfl rfl rfl (V_move rfl rfl) (GR_cons_g rfl rfl rfl rfl rfl rfl rfl (V_move rfl rfl) (GR_cons_g rfl rfl rfl rfl rfl rfl rfl (V_eql rfl rfl rfl) (GR_cons_g rfl rfl rfl rfl rfl rfl rfl (V_move rfl rfl) (GR_cons_g rfl rfl rfl rfl rfl rfl rfl (V_len rfl Try.underlying56 rfl) (GR_cons_g rfl rfl rfl rfl rfl rfl rfl (V_gtr rfl rfl rfl) (GR_cons_g rfl rfl rfl rfl rfl rfl rfl (V_eqlBB_same rfl rfl rfl Try.underlying4 (by rw [Bool.eq_iff_iff, decide_eq_true_eq, decide_eq_true_eq]; constructor; intro q; have := (hy.2.1 q).1; omega; intro q; by_cases q2 : refuseE b l = 0; exact q2; rw [hy.2.2 q2] at q; simp at q)) (GR_cons rfl rfl rfl rfl (V_pick_t rfl rfl rfl) (GR_cons_g rfl rfl rfl rfl rfl rfl rfl (V_loadN (vs := [_, _, _, _, _, _]) rfl rfl ag_23 sz_23 rfl (CellsAt.item rfl)) (GR_cons_g rfl rfl rfl rfl rfl rfl rfl (V_move rfl rfl) (GR_cons_g rfl rfl rfl rfl rfl rfl rfl (V_move rfl rfl) (GR_nil))))))))))))))) ?_
            refine GT_call0_g rfl rfl rfl rfl rfl rfl rfl rfl rfl rfl rfl rn_36 (fun w hw => C_ref05_CheckRefusal (hp.sh hw) (hs.sh hw) (by omega)) (GR_cons rfl rfl rfl rfl (V_move rfl rfl) (GR_cons rfl rfl rfl rfl (V_move rfl rfl) (GR_cons rfl rfl rfl rfl (V_isT (V_eql rfl rfl rfl) (by first | (exfalso; omega) | rw [hrc, if_pos h5] | rw [hrc, if_neg h5, if_pos h6] | rw [hrc, if_neg h5, if_neg h6])) (GR_cons rfl rfl rfl rfl (V_move rfl rfl) (GR_cons_g rfl rfl rfl rfl rfl rfl rfl (V_move rfl rfl) (GR_cons_g rfl rfl rfl rfl rfl rfl rfl (V_eql rfl rfl rfl) (GR_cons_g rfl rfl rfl rfl rfl rfl rfl (V_move rfl rfl) (GR_cons_g rfl rfl rfl rfl rfl rfl rfl (V_len rfl Try.underlying56 rfl) (GR_cons_g rfl rfl rfl rfl rfl rfl rfl (V_gtr rfl rfl rfl) (GR_cons_g rfl rfl rfl rfl rfl rfl rfl (V_eqlBB_same rfl rfl rfl Try.underlying4 (by rw [Bool.eq_iff_iff, decide_eq_true_eq, decide_eq_true_eq]; constructor; intro q; have := (hy.2.1 q).1; omega; intro q; by_cases q2 : refuseE b l = 0; exact q2; rw [hy.2.2 q2] at q; simp at q)) (GR_cons rfl rfl rfl rfl (V_pick_t rfl rfl rfl) (GR_cons_g rfl rfl rfl rfl rfl rfl rfl (V_loadN (vs := [_, _, _, _, _, _]) rfl rfl ag_23 sz_23 rfl (CellsAt.item rfl)) (GR_cons_g rfl rfl rfl rfl rfl rfl rfl (V_move rfl rfl) (GR_cons_g rfl rfl rfl rfl rfl rfl rfl (V_move rfl rfl) (GR_nil))))))))))))))) ?_
            refine GT_st_g rfl rfl rfl rfl rfl rfl rfl (V_isT (V_eql rfl rfl rfl) rfl) ?_
            refine GT_st rfl rfl rfl rfl (V_pick_t rfl rfl rfl) ?_
            refine GT_st rfl rfl rfl rfl (V_move rfl rfl) ?_
            refine GT_call0_g rfl rfl rfl rfl rfl rfl rfl rfl rfl rfl rfl rn_16 (fun w hw => C_law05_Works) (GR_cons rfl rfl rfl rfl (V_move rfl rfl) (GR_cons rfl rfl rfl rfl (V_move rfl rfl) (GR_cons rfl rfl rfl rfl (V_isT (V_eql rfl rfl rfl) (by first | (exfalso; omega) | rw [hrc, if_pos h5] | rw [hrc, if_neg h5, if_pos h6] | rw [hrc, if_neg h5, if_neg h6])) (GR_cons rfl rfl rfl rfl (V_move rfl rfl) (GR_cons_g rfl rfl rfl rfl rfl rfl rfl (V_move rfl rfl) (GR_cons_g rfl rfl rfl rfl rfl rfl rfl (V_eql rfl rfl rfl) (GR_cons_g rfl rfl rfl rfl rfl rfl rfl (V_move rfl rfl) (GR_cons_g rfl rfl rfl rfl rfl rfl rfl (V_len rfl Try.underlying56 rfl) (GR_cons_g rfl rfl rfl rfl rfl rfl rfl (V_gtr rfl rfl rfl) (GR_cons_g rfl rfl rfl rfl rfl rfl rfl (V_eqlBB_same rfl rfl rfl Try.underlying4 (by rw [Bool.eq_iff_iff, decide_eq_true_eq, decide_eq_true_eq]; constructor; intro q; have := (hy.2.1 q).1; omega; intro q; by_cases q2 : refuseE b l = 0; exact q2; rw [hy.2.2 q2] at q; simp at q)) (GR_cons rfl rfl rfl rfl (V_pick_t rfl rfl rfl) (GR_cons rfl rfl rfl rfl (V_move rfl rfl) (GR_cons_g rfl rfl rfl rfl rfl rfl rfl (V_loadN (vs := [_, _, _, _, _, _]) rfl rfl ag_23 sz_23 rfl (CellsAt.item rfl)) (GR_cons_g rfl rfl rfl rfl rfl rfl rfl (V_move rfl rfl) (GR_cons_g rfl rfl rfl rfl rfl rfl rfl (V_move rfl rfl) (GR_cons_g rfl rfl rfl rfl rfl rfl rfl (V_loadN (vs := [_, _, _, _, _, _]) rfl rfl ag_23 sz_23 rfl (CellsAt.item rfl)) (GR_cons_g rfl rfl rfl rfl rfl rfl rfl (V_move rfl rfl) (GR_cons_g rfl rfl rfl rfl rfl rfl rfl (V_move rfl rfl) (GR_cons_g rfl rfl rfl rfl rfl rfl rfl (V_isT (V_eql rfl rfl rfl) rfl) (GR_cons rfl rfl rfl rfl (V_pick_t rfl rfl rfl) (GR_nil))))))))))))))))))))) ?_
            refine GT_st rfl rfl rfl rfl (V_pick_t rfl rfl rfl) ?_
            refine GT_st rfl rfl rfl rfl (V_assign rfl rfl) ?_
            refine GT_nil ?_
            refine GE_ret Try.func12 rfl (fun w hw => ⟨?_, hw.nil⟩)
            rfl
          · skip
            refine GE_skip ?_
            refine GE_seq ?_
            refine GE_slots (L' := [(1, _), (2, _), (3, _), (7, _), (8, _), (11, _)]) ⟨rfl, rfl, rfl, rfl, rfl, rfl, trivial⟩ ?_
            refine GE_drawn (.st 0 (.st 1 (.st 2 (.st 3 (.st 4 (.st 5 (.st 6 (.st 7 (.st 8 (.st 9 (.st 10 (.st 11 (.st 12 (.st 13 (.st 14 (.st 16 (.st 17 (.st 18 (.ld 15 [0, 1, 2, 3, 4, 5, 6, 7, 8, 9, 10, 16, 17, 18] (.ld 19 [0, 1, 2, 3, 4, 5, 6, 7, 8, 9, 10, 12, 13, 14] (.st 20 (.st 21 (.st 22 (.ld 23 [0, 1, 2, 3, 4, 5, 6, 7, 8, 9, 10, 11, 12, 13, 14, 16, 17, 18, 20, 21] (.st 24 (.st 25 .nil)))))))))))))))))))))))))) [15, 19, 23] (by decide +kernel) ?_
            refine GT_st rfl rfl rfl rfl (V_move rfl rfl) ?_
            refine GT_st rfl rfl rfl rfl (V_move rfl rfl) ?_
            refine GT_st rfl rfl rfl rfl (V_isT (V_eql rfl rfl rfl) (by first | (exfalso; omega) | rw [hrc, if_pos h5] | rw [hrc, if_neg h5, if_pos h6] | rw [hrc, if_neg h5, if_neg h6])) ?_
            refine GT_st rfl rfl rfl rfl (V_move rfl rfl) ?_
            refine GT_st_g rfl rfl rfl rfl rfl rfl rfl (V_move rfl rfl) ?_
            refine GT_st_g rfl rfl rfl rfl rfl rfl rfl (V_eql rfl rfl rfl) ?_
            refine GT_st_g rfl rfl rfl rfl rfl rfl rfl (V_move rfl rfl) ?_
            refine GT_st_g rfl rfl rfl rfl rfl rfl rfl (V_len rfl Try.underlying56 rfl) ?_
            refine GT_st_g rfl rfl rfl rfl rfl rfl rfl (V_gtr rfl rfl rfl) ?_
            refine GT_st_g rfl rfl rfl rfl rfl rfl rfl (V_eqlBB_same rfl rfl rfl Try.underlying4 (by rw [Bool.eq_iff_iff, decide_eq_true_eq, decide_eq_true_eq]; constructor; intro q; have := (hy.2.1 q).1; omega; intro q; by_cases q2 : refuseE b l = 0; exact q2; rw [hy.2.2 q2] at q; simp at q)) ?_
            refine GT_st rfl rfl rfl rfl (V_pick_t rfl rfl rfl) ?_
            refine GT_st rfl rfl rfl rfl (V_move rfl rfl) ?_
            refine GT_st_g rfl rfl rfl rfl rfl rfl rfl (V_loadN (vs := [_, _, _, _, _, _]) rfl rfl ag_23 sz_23 rfl (CellsAt.item rfl)) ?_
            refine GT_st_g rfl rfl rfl rfl rfl rfl rfl (V_move rfl rfl) ?_
            refine GT_st_g rfl rfl rfl rfl rfl rfl rfl (V_move rfl rfl) ?_
            refine GT_st_g rfl rfl rfl rfl rfl rfl rfl (V_loadN (vs := [_, _, _, _, _, _]) rfl rfl ag_23 sz_23 rfl (CellsAt.item rfl)) ?_
            refine GT_st_g rfl rfl rfl rfl rfl rfl rfl (V_move rfl rfl) ?_
            refine GT_st_g rfl rfl rfl rfl rfl rfl rfl (V_move rfl rfl) ?_
            refine GT_call0_g rfl rfl rfl rfl rfl rfl rfl rfl rfl rfl rfl rn_35 (fun w hw => C_lathe_CheckRefusal (hp.sh hw) (hs.sh hw) (by omega)) (GR_cons rfl rfl rfl rfl (V_move rfl rfl) (GR_cons rfl rfl rfl rfl (V_move rfl rfl) (GR_cons rfl rfl rfl rfl (V_isT (V_eql rfl rfl rfl) (by first | (exfalso; omega) | rw [hrc, if_pos h5] | rw [hrc, if_neg h5, if_pos h6] | rw [hrc, if_neg h5, if_neg h6])) (GR_cons rfl rfl rfl rfl (V_move rfl rfl) (GR_cons_g rfl rfl rfl rfl rfl rfl rfl (V_move rfl rfl) (GR_cons_g rfl rfl rfl rfl rfl rfl rfl (V_eql rfl rfl rfl) (GR_cons_g rfl rfl rfl rfl rfl rfl rfl (V_move rfl rfl) (GR_cons_g rfl rfl rfl rfl rfl rfl rfl (V_len rfl Try.underlying56 rfl) (GR_cons_g rfl rfl rfl rfl rfl rfl rfl (V_gtr rfl rfl rfl) (GR_cons_g rfl rfl rfl rfl rfl rfl rfl (V_eqlBB_same rfl rfl rfl Try.underlying4 (by rw [Bool.eq_iff_iff, decide_eq_true_eq, decide_eq_true_eq]; constructor; intro q; have := (hy.2.1 q).1; omega; intro q; by_cases q2 : refuseE b l = 0; exact q2; rw [hy.2.2 q2] at q; simp at q)) (GR_cons rfl rfl rfl rfl (V_pick_t rfl rfl rfl) (GR_cons_g rfl rfl rfl rfl rfl rfl rfl (V_loadN (vs := [_, _, _, _, _, _]) rfl rfl ag_23 sz_23 rfl (CellsAt.item rfl)) (GR_cons_g rfl rfl rfl rfl rfl rfl rfl (V_move rfl rfl) (GR_cons_g rfl rfl rfl rfl rfl rfl rfl (V_move rfl rfl) (GR_nil))))))))))))))) ?_
            refine GT_call0_g rfl rfl rfl rfl rfl rfl rfl rfl rfl rfl rfl rn_36 (fun w hw => C_ref05_CheckRefusal (hp.sh hw) (hs.sh hw) (by omega)) (GR_cons rfl rfl rfl rfl (V_move rfl rfl) (GR_cons rfl rfl rfl rfl (V_move rfl rfl) (GR_cons rfl rfl rfl rfl (V_isT (V_eql rfl rfl rfl) (by first | (exfalso; omega) | rw [hrc, if_pos h5] | rw [hrc, if_neg h5, if_pos h6] | rw [hrc, if_neg h5, if_neg h6])) (GR_cons rfl rfl rfl rfl (V_move rfl rfl) (GR_cons_g rfl rfl rfl rfl rfl rfl rfl (V_move rfl rfl) (GR_cons_g rfl rfl rfl rfl rfl rfl rfl (V_eql rfl rfl rfl) (GR_cons_g rfl rfl rfl rfl rfl rfl rfl (V_move rfl rfl) (GR_cons_g rfl rfl rfl rfl rfl rfl rfl (V_len rfl Try.underlying56 rfl) (GR_cons_g rfl rfl rfl rfl rfl rfl rfl (V_gtr rfl rfl rfl) (GR_cons_g rfl rfl rfl rfl rfl rfl rfl (V_eqlBB_same rfl rfl rfl Try.underlying4 (by rw [Bool.eq_iff_iff, decide_eq_true_eq, decide_eq_true_eq]; constructor; intro q; have := (hy.2.1 q).1; omega; intro q; by_cases q2 : refuseE b l = 0; exact q2; rw [hy.2.2 q2] at q; simp at q)) (GR_cons rfl rfl rfl rfl (V_pick_t rfl rfl rfl) (GR_cons_g rfl rfl rfl rfl rfl rfl rfl (V_loadN (vs := [_, _, _, _, _, _]) rfl rfl ag_23 sz_23 rfl (CellsAt.item rfl)) (GR_cons_g rfl rfl rfl rfl rfl rfl rfl (V_move rfl rfl) (GR_cons_g rfl rfl rfl rfl rfl rfl rfl (V_move rfl rfl) (GR_nil))))))))))))))) ?_
            refine GT_st_g rfl rfl rfl rfl rfl rfl rfl (V_isT (V_eql rfl rfl rfl) rfl) ?_
            refine GT_st rfl rfl rfl rfl (V_pick_t rfl rfl rfl) ?_
            refine GT_st rfl rfl rfl rfl (V_move rfl rfl) ?_
            refine GT_call0_g rfl rfl rfl rfl rfl rfl rfl rfl rfl rfl rfl rn_16 (fun w hw => C_law05_Works) (GR_cons rfl rfl rfl rfl (V_move rfl rfl) (GR_cons rfl rfl rfl rfl (V_move rfl rfl) (GR_cons rfl rfl rfl rfl (V_isT (V_eql rfl rfl rfl) (by first | (exfalso; omega) | rw [hrc, if_pos h5] | rw [hrc, if_neg h5, if_pos h6] | rw [hrc, if_neg h5, if_neg h6])) (GR_cons rfl rfl rfl rfl (V_move rfl rfl) (GR_cons_g rfl rfl rfl rfl rfl rfl rfl (V_move rfl rfl) (GR_cons_g rfl rfl rfl rfl rfl rfl rfl (V_eql rfl rfl rfl) (GR_cons_g rfl rfl rfl rfl rfl rfl rfl (V_move rfl rfl) (GR_cons_g rfl rfl rfl rfl rfl rfl rfl (V_len rfl Try.underlying56 rfl) (GR_cons_g rfl rfl rfl rfl rfl rfl rfl (V_gtr rfl rfl rfl) (GR_cons_g rfl rfl rfl rfl rfl rfl rfl (V_eqlBB_same rfl rfl rfl Try.underlying4 (by rw [Bool.eq_iff_iff, decide_eq_true_eq, decide_eq_true_eq]; constructor; intro q; have := (hy.2.1 q).1; omega; intro q; by_cases q2 : refuseE b l = 0; exact q2; rw [hy.2.2 q2] at q; simp at q)) (GR_cons rfl rfl rfl rfl (V_pick_t rfl rfl rfl) (GR_cons rfl rfl rfl rfl (V_move rfl rfl) (GR_cons_g rfl rfl rfl rfl rfl rfl rfl (V_loadN (vs := [_, _, _, _, _, _]) rfl rfl ag_23 sz_23 rfl (CellsAt.item rfl)) (GR_cons_g rfl rfl rfl rfl rfl rfl rfl (V_move rfl rfl) (GR_cons_g rfl rfl rfl rfl rfl rfl rfl (V_move rfl rfl) (GR_cons_g rfl rfl rfl rfl rfl rfl rfl (V_loadN (vs := [_, _, _, _, _, _]) rfl rfl ag_23 sz_23 rfl (CellsAt.item rfl)) (GR_cons_g rfl rfl rfl rfl rfl rfl rfl (V_move rfl rfl) (GR_cons_g rfl rfl rfl rfl rfl rfl rfl (V_move rfl rfl) (GR_cons_g rfl rfl rfl rfl rfl rfl rfl (V_isT (V_eql rfl rfl rfl) rfl) (GR_cons rfl rfl rfl rfl (V_pick_t rfl rfl rfl) (GR_nil))))))))))))))))))))) ?_
            refine GT_st rfl rfl rfl rfl (V_pick_t rfl rfl rfl) ?_
            refine GT_st rfl rfl rfl rfl (V_assign rfl rfl) ?_
            refine GT_nil ?_
            refine GE_ret Try.func12 rfl (fun w hw => ⟨?_, hw.nil⟩)
            rfl
end Go.Proofs.Ytacmnmcaeflflaa
