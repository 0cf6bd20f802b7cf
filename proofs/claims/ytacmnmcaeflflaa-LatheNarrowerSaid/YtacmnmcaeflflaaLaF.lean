/- LatheNarrower, walked. -/
import Derived.Test.YtacmnmcaeflflaaSxA
import Derived.Test.YtacmnmcaeflflaaLaD
import Derived.Test.YtacmnmcaeflflaaLaL
namespace Go.Proofs.Ytacmnmcaeflflaa
open Go.Sx Go.Proofs

theorem L_LatheNarrower {b : Blank} {A A2 : Option Addr} {l : List Pt} {d : List Nar} {c c2 : Nat} {w : World} (hp : RdL w 2 ePt A l) (_ : l.length ≤ maxLen ∧ ∀ x ∈ l, PtWf x) (hr : RdL w 2 eNar A2 d) (hx : d.length ≤ maxLen ∧ ∀ x ∈ d, NarWf x) :
    Con0 Try.prog 5 [b.val, .slice A l.length c, .slice A2 d.length c2] w (.bool true) := by
  have hdl := hx.1
  unfold maxLen at hdl
  refine Ret_of (vs := [_, _, _]) hm none' Try.func5 rfl Try.ntmps5 rfl ?_
  dsimp only [slotsOf]
  refine GE_seq ?_
  refine GE_plain (.ld 0 [] (.st 1 .nil)) rfl ?_
  refine GT_box (z := [_, _, _, _, _, _]) rfl rfl rfl rfl rfl rfl rfl (fun _ => GR_nil) (fun b3 => ?_)
  refine GT_st rfl rfl rfl rfl (V_assign rfl rfl) ?_
  refine GT_nil ?_
  refine GE_seq ?_
  refine GE_seq ?_
  refine GE_plain (.st 0 (.st 1 (.ld 2 [] (.st 3 .nil)))) rfl ?_
  refine GT_st rfl rfl rfl rfl (V_loadN (vs := [_, _, _, _, _, _]) rfl rfl ag_23 sz_23 rfl (CellsAt.item rfl)) ?_
  refine GT_st rfl rfl rfl rfl (V_move rfl rfl) ?_
  refine GT_call0 rfl rfl rfl rfl rfl rfl rfl rfl rn_24 (fun w hw => C_law05_valid (hp.sh hw)) (GR_nil) ?_
  first | refine GT_st rfl rfl rfl rfl (V_not rfl rfl) ?_ | refine GT_st rfl rfl rfl rfl (V_notB rfl rfl) ?_
  refine GT_nil ?_
  first | refine GE_condNot rfl (fun h1 => ?_) (fun h1 => ?_) | refine GE_cond rfl (fun h1 => ?_) (fun h1 => ?_) | refine GE_condNotB rfl (fun h1 => ?_) (fun h1 => ?_) | refine GE_condB rfl (fun h1 => ?_) (fun h1 => ?_)
  · skip
    refine GE_seq ?_
    refine GE_slots (L' := []) trivial ?_
    refine GE_plain (.ld 0 [] (.st 1 .nil)) rfl ?_
    refine GT_call0 rfl rfl rfl rfl rfl rfl rfl rfl rn_16 (fun w hw => C_law05_Works) (GR_nil) ?_
    refine GT_st rfl rfl rfl rfl (V_assign rfl rfl) ?_
    refine GT_nil ?_
    refine GE_ret Try.func5 rfl (fun w hw => ⟨?_, hw.nil⟩)
    rfl
  · obtain ⟨hl, he⟩ := of_valid h1; obtain ⟨hb, _, hpt⟩ := both_zero.1 he; have hpb := ptB_of hpt
    refine GE_skip ?_
    refine GE_seq ?_
    refine GE_slots (L' := [(1, _), (2, _), (3, _)]) ⟨rfl, rfl, rfl, trivial⟩ ?_
    refine GE_plain (.ld 0 [] (.st 1 (.ld 2 [] (.st 3 .nil)))) rfl ?_
    refine GT_buildSlice (z := []) rfl rfl rfl rfl rfl Try.underlying24 zc_39 sz_39 (by decide) rfl rfl (fun _ => GR_nil) (fun b19 => ?_)
    refine GT_st rfl rfl rfl rfl (V_move rfl rfl) ?_
    refine GT_append (enc := ePt) (l := []) (m := l) rfl rfl rfl rfl rfl rfl rfl (show Own 2 39 ePt [] (.slice (some ⟨b19, 0, none⟩) 0 0) [(b19, blk [] 39)] from Own.lit rfl rfl (by decide)) (fun w m => hp.sh m) Try.underlying24 zc_39 sz_39 ⟨rfl, by decide⟩ by_39 ⟨by simp only [List.length_nil]; omega, by simp only [List.length_nil]; omega⟩ ePt_len ePt_one (fun _ _ _ _ => GR_nil) (fun A7 c7 I7 hO7 => ?_)
    refine GT_st rfl rfl rfl rfl (V_assign rfl rfl) ?_
    refine GT_nil ?_
    refine GE_cut (ι := List Pt × Items) (fun x => [(1, .slice A l.length c), (3, ptr b3 0), (7, .slice A7 x.1.length c7)]) (fun x => x.2 ++ [(b3, blk b.cells 23)]) (fun x => Narrower l x.1 ∧ Own 2 39 ePt x.1 (.slice A7 x.1.length c7) x.2) ?_ (fun hk1 => ?_)
    · rintro ⟨l1, I1⟩ ⟨hn, hO⟩; dsimp only at hn hO ⊢; obtain ⟨he1, hm⟩ := hn.both he
      refine GE_seq ?_
      refine GE_plain (.st 0 (.st 1 (.ld 2 [] (.st 3 (.st 4 (.st 5 (.st 6 (.st 7 .nil)))))))) rfl ?_
      refine GT_st rfl rfl rfl rfl (V_loadN (vs := [_, _, _, _, _, _]) rfl rfl ag_23 sz_23 rfl (CellsAt.item rfl)) ?_
      refine GT_st rfl rfl rfl rfl (V_move rfl rfl) ?_
      refine GT_call rfl rfl rfl rfl rfl rfl rfl rfl rn_17 (fun w hw => C_lathe_Outermost (hp.sh hw)) (fun _ _ => GR_nil) (fun y hy => ?_)
      refine GT_st rfl rfl rfl rfl (V_move rfl rfl) ?_
      refine GT_st rfl rfl rfl rfl (V_extract rfl rfl rfl) ?_
      refine GT_st rfl rfl rfl rfl (V_extract rfl rfl rfl) ?_
      refine GT_st rfl rfl rfl rfl (V_assign rfl rfl) ?_
      refine GT_st rfl rfl rfl rfl (V_assign rfl rfl) ?_
      refine GT_nil ?_
      refine GE_seq ?_
      refine GE_slots (L' := [(1, _), (3, _), (7, _), (9, _), (10, _)]) ⟨rfl, rfl, rfl, rfl, rfl, trivial⟩ ?_
      refine GE_plain (.st 0 (.st 1 (.ld 2 [] (.st 3 (.st 4 (.st 5 (.st 6 (.st 7 .nil)))))))) rfl ?_
      refine GT_st rfl rfl rfl rfl (V_loadN (vs := [_, _, _, _, _, _]) rfl rfl ag_23 sz_23 rfl (CellsAt.item rfl)) ?_
      refine GT_st rfl rfl rfl rfl (V_move rfl rfl) ?_
      refine GT_call rfl rfl rfl rfl rfl rfl rfl rfl rn_17 (fun w hw => C_lathe_Outermost (l := l1) (hO.rdH ePt_len hw)) (fun _ _ => GR_nil) (fun z hz => ?_)
      refine GT_st rfl rfl rfl rfl (V_move rfl rfl) ?_
      refine GT_st rfl rfl rfl rfl (V_extract rfl rfl rfl) ?_
      refine GT_st rfl rfl rfl rfl (V_extract rfl rfl rfl) ?_
      refine GT_st rfl rfl rfl rfl (V_assign rfl rfl) ?_
      refine GT_st rfl rfl rfl rfl (V_assign rfl rfl) ?_
      refine GT_nil ?_
      refine GE_seq ?_
      refine GE_seq ?_
      refine GE_slots (L' := [(1, _), (9, _), (10, _), (11, _), (12, _)]) ⟨rfl, rfl, rfl, rfl, rfl, trivial⟩ ?_
      refine GE_plain (.st 0 (.st 1 .nil)) rfl ?_
      refine GT_st rfl rfl rfl rfl (V_move rfl rfl) ?_
      refine GT_st rfl rfl rfl rfl (V_neq rfl rfl rfl) ?_
      refine GT_nil ?_
      first | refine GE_condNot rfl (fun h4 => ?_) (fun h4 => ?_) | refine GE_cond rfl (fun h4 => ?_) (fun h4 => ?_) | refine GE_condNotB rfl (fun h4 => ?_) (fun h4 => ?_) | refine GE_condB rfl (fun h4 => ?_) (fun h4 => ?_)
      · obtain ⟨ho, e1, e2⟩ := outE_ne he h4
        refine GE_seq ?_
        refine GE_slots (L' := [(10, _)]) ⟨rfl, trivial⟩ ?_
        refine GE_plain (.st 0 (.st 1 (.st 2 (.ld 3 [] (.st 4 (.st 5 .nil)))))) rfl ?_
        refine GT_st rfl rfl rfl rfl (V_move rfl rfl) ?_
        refine GT_st rfl rfl rfl rfl (V_isT (V_eql rfl rfl rfl) e1) ?_
        refine GT_st rfl rfl rfl rfl (V_move rfl rfl) ?_
        refine GT_call0_g rfl rfl rfl rfl rfl rfl rfl rfl rfl rfl rfl rn_16 (fun w hw => C_law05_Works) (GR_nil) ?_
        refine GT_st rfl rfl rfl rfl (V_pick_t rfl rfl rfl) ?_
        refine GT_st rfl rfl rfl rfl (V_assign rfl rfl) ?_
        refine GT_nil ?_
        refine GE_ret Try.func5 rfl (fun w hw => ⟨?_, hw.nil⟩)
        rfl
      · obtain ⟨e3, e4, e5, e6⟩ := hm.out he he1 h4
        refine GE_skip ?_
        refine GE_seq ?_
        refine GE_seq ?_
        refine GE_plain (.st 0 (.st 1 (.st 2 (.st 3 (.st 4 (.st 5 (.st 6 (.st 7 (.st 8 (.st 9 (.st 10 (.st 11 (.st 12 (.st 13 (.st 14 (.st 15 .nil)))))))))))))))) rfl ?_
        refine GT_st rfl rfl rfl rfl (V_move rfl rfl) ?_
        refine GT_st rfl rfl rfl rfl (V_isF (V_neq rfl rfl rfl) (fun h => h e3)) ?_
        refine GT_st rfl rfl rfl rfl (V_move rfl rfl) ?_
        refine GT_st_g rfl rfl rfl rfl rfl rfl rfl (V_move rfl rfl) ?_
        refine GT_st_g rfl rfl rfl rfl rfl rfl rfl (V_len rfl Try.underlying25 rfl) ?_
        refine GT_st_g rfl rfl rfl rfl rfl rfl rfl (V_move rfl rfl) ?_
        refine GT_st_g rfl rfl rfl rfl rfl rfl rfl (V_len rfl Try.underlying24 rfl) ?_
        refine GT_st_g rfl rfl rfl rfl rfl rfl rfl (V_isF (V_neq rfl rfl rfl) (fun h => h (by rw [e4]))) ?_
        refine GT_st rfl rfl rfl rfl (V_pick_f rfl rfl rfl) ?_
        refine GT_st rfl rfl rfl rfl (V_move rfl rfl) ?_
        refine GT_st_g rfl rfl rfl rfl rfl rfl rfl (V_move rfl rfl) ?_
        refine GT_st_g rfl rfl rfl rfl rfl rfl rfl (V_len rfl Try.underlying25 rfl) ?_
        refine GT_st_g rfl rfl rfl rfl rfl rfl rfl (V_move rfl rfl) ?_
        refine GT_st_g rfl rfl rfl rfl rfl rfl rfl (V_len rfl Try.underlying24 rfl) ?_
        refine GT_st_g rfl rfl rfl rfl rfl rfl rfl (V_isF (V_neq rfl rfl rfl) (fun h => h (by rw [e5]))) ?_
        refine GT_st rfl rfl rfl rfl (V_pick_f rfl rfl rfl) ?_
        refine GT_nil ?_
        refine GE_cond_f rfl ?_
        refine GE_skip ?_
        refine GE_seq ?_
        refine GE_seq ?_
        refine GE_slots (L' := [(9, _), (11, _)]) ⟨rfl, rfl, trivial⟩ ?_
        refine GE_plain (.st 0 .nil) rfl ?_
        refine GT_st rfl rfl rfl rfl (V_assign rfl rfl) ?_
        refine GT_nil ?_
        refine GE_block ?_
        refine GE_to (GE_loop (ι := Nat) (fun k => l.length - k) (fun k => [(9, .slice y.1 (outR b l).length y.2.1), (11, .slice z.1 (outR b l1).length z.2.1), (13, I k)]) (fun k => y.2.2 ++ z.2.2) (fun k => k ≤ l.length) ?_ 0 ?_) ⟨rfl, rfl, rfl, trivial⟩ (HS.chunk HS.last)
        · intro k hk ih
          refine GE_seq ?_
          refine GE_seq ?_
          refine GE_plain (.st 0 (.st 1 (.st 2 (.st 3 .nil)))) rfl ?_
          refine GT_st rfl rfl rfl rfl (V_move rfl rfl) ?_
          refine GT_st rfl rfl rfl rfl (V_move rfl rfl) ?_
          refine GT_st rfl rfl rfl rfl (V_len rfl Try.underlying25 rfl) ?_
          refine GT_st rfl rfl rfl rfl (V_lss rfl rfl rfl) ?_
          refine GT_nil ?_
          first | refine GE_condNot rfl (fun h5 => ?_) (fun h5 => ?_) | refine GE_cond rfl (fun h5 => ?_) (fun h5 => ?_) | refine GE_condNotB rfl (fun h5 => ?_) (fun h5 => ?_) | refine GE_condB rfl (fun h5 => ?_) (fun h5 => ?_)
          · have hlt : k < l.length := (by omega); have hab := e6 k hlt
            refine GE_skip ?_
            refine GE_seq ?_
            refine GE_block ?_
            refine GE_seq ?_
            refine GE_slots (L' := [(9, _), (11, _), (13, _)]) ⟨rfl, rfl, rfl, trivial⟩ ?_
            refine GE_drawn (.st 0 (.st 1 (.st 2 (.st 3 (.st 4 (.st 5 (.st 6 (.st 7 (.st 8 .nil))))))))) [] (by decide +kernel) ?_
            refine GT_st rfl rfl rfl rfl (V_move rfl rfl) ?_
            refine GT_st rfl rfl rfl rfl (V_move rfl rfl) ?_
            refine GT_st rfl rfl rfl rfl (V_index rfl rfl rfl Try.underlying25 sz_2 rfl (by omega) (hz.isSome (k := k) (by omega))) ?_
            refine GT_st rfl rfl rfl rfl (V_load rfl rfl ag_2 (CellAt.own0 hz eI_len (by omega) rfl)) ?_
            refine GT_st rfl rfl rfl rfl (V_move rfl rfl) ?_
            refine GT_st rfl rfl rfl rfl (V_move rfl rfl) ?_
            refine GT_st rfl rfl rfl rfl (V_index rfl rfl rfl Try.underlying25 sz_2 rfl (by omega) (hy.isSome (k := k) (by omega))) ?_
            refine GT_st rfl rfl rfl rfl (V_load rfl rfl ag_2 (CellAt.own0 hy eI_len (by omega) rfl)) ?_
            refine GT_st rfl rfl rfl rfl (V_isF (V_lss rfl rfl rfl) (by omega)) ?_
            refine GT_nil ?_
            refine GE_cond_f rfl ?_
            refine GE_skip ?_
            refine GE_inBlock ?_
            refine GE_slots (L' := [(9, _), (11, _), (13, _)]) ⟨rfl, rfl, rfl, trivial⟩ ?_
            refine GE_plain (.st 0 (.st 1 (.ld 2 [] .nil))) rfl ?_
            refine GT_st rfl rfl rfl rfl (V_move rfl rfl) ?_
            refine GT_st rfl rfl rfl rfl (V_add rfl rfl rfl (wrap_i64 (by omega))) ?_
            refine GT_ldv rfl rfl rfl rfl rfl (V_assign rfl rfl) (GR_nil) ?_
            refine GT_nil ?_
            exact GE_to (ih (k + 1) (by omega) (by omega)) ⟨rfl, rfl, rfl, trivial⟩ (HS.chunk HS.last)
          · skip
            refine GE_exit rfl ?_
            refine GE_seq ?_
            refine GE_slots (L' := []) trivial ?_
            refine GE_plain (.ld 0 [] (.st 1 .nil)) rfl ?_
            refine GT_call0 rfl rfl rfl rfl rfl rfl rfl rfl rn_16 (fun w hw => C_law05_Works) (GR_nil) ?_
            refine GT_st rfl rfl rfl rfl (V_assign rfl rfl) ?_
            refine GT_nil ?_
            refine GE_ret Try.func5 rfl (fun w hw => ⟨?_, hw.nil⟩)
            rfl
        · exact Nat.zero_le _
    · skip
      refine GE_seq ?_
      refine GE_plain (.st 0 .nil) rfl ?_
      refine GT_st rfl rfl rfl rfl (V_assign rfl rfl) ?_
      refine GT_nil ?_
      refine GE_block ?_
      refine GE_to (GE_loop (ι := Nat × List Pt × Items) (fun x => l.length - x.1) (fun x => [(1, .slice A l.length c), (2, .slice A2 d.length c2), (3, ptr b3 0), (7, .slice A7 l.length c7), (8, I x.1)]) (fun x => x.2.2 ++ [(b3, blk b.cells 23)]) (fun x => x.1 ≤ l.length ∧ Narrower l x.2.1 ∧ Own 2 39 ePt x.2.1 (.slice A7 l.length c7) x.2.2) ?_ (0, l, I7) ?_) ⟨rfl, rfl, rfl, rfl, rfl, trivial⟩ (HS.chunk (HS.cons rfl HS.nil))
      · rintro ⟨k, l1, I1⟩ ⟨hk, hn, hO⟩ ih; dsimp only at hk hn hO ih ⊢; have hl1 := hn.len
        refine GE_seq ?_
        refine GE_seq ?_
        refine GE_plain (.st 0 (.st 1 (.st 2 (.st 3 (.st 4 (.st 5 (.st 6 (.st 7 (.st 8 (.st 9 .nil)))))))))) rfl ?_
        refine GT_st rfl rfl rfl rfl (V_move rfl rfl) ?_
        refine GT_st rfl rfl rfl rfl (V_move rfl rfl) ?_
        refine GT_st rfl rfl rfl rfl (V_len rfl Try.underlying24 rfl) ?_
        refine GT_st rfl rfl rfl rfl (V_lss rfl rfl rfl) ?_
        refine GT_st rfl rfl rfl rfl (V_move rfl rfl) ?_
        first | refine GT_splitNot (d := 26) rfl (fun h2 => ?_) (fun h2 => ?_) | refine GT_split (d := 26) rfl (fun h2 => ?_) (fun h2 => ?_) | refine GT_splitNotB (d := 26) rfl (fun h2 => ?_) (fun h2 => ?_) | refine GT_splitB (d := 26) rfl (fun h2 => ?_) (fun h2 => ?_)
        · have hkl : k < l.length := (by omega)
          refine GT_st_g rfl rfl rfl rfl rfl rfl rfl (V_move rfl rfl) ?_
          refine GT_st_g rfl rfl rfl rfl rfl rfl rfl (V_move rfl rfl) ?_
          refine GT_st_g rfl rfl rfl rfl rfl rfl rfl (V_len rfl Try.underlying37 rfl) ?_
          refine GT_st_g rfl rfl rfl rfl rfl rfl rfl (V_lss rfl rfl rfl) ?_
          refine GT_st rfl rfl rfl rfl (V_pick_t rfl rfl rfl) ?_
          refine GT_nil ?_
          first | refine GE_condNot rfl (fun h3 => ?_) (fun h3 => ?_) | refine GE_cond rfl (fun h3 => ?_) (fun h3 => ?_) | refine GE_condNotB rfl (fun h3 => ?_) (fun h3 => ?_) | refine GE_condB rfl (fun h3 => ?_) (fun h3 => ?_)
          · have hkd : k < d.length := (by omega); obtain ⟨ha, hbb⟩ := hx.2 (d.getD k default) (by simp [List.getD, hkd]); have hq := hn.pts k hkl; have hq0 := hpb k hkl
            refine GE_skip ?_
            refine GE_seq ?_
            refine GE_block ?_
            refine GE_seq ?_
            refine GE_slots (L' := [(1, _), (2, _), (3, _), (7, _), (8, _), (27, _), (28, _), (29, _), (30, _)]) ⟨rfl, rfl, rfl, rfl, rfl, rfl, rfl, rfl, rfl, trivial⟩ ?_
            refine GE_drawn (.st 0 (.st 1 (.st 2 (.st 3 (.st 4 (.st 5 (.st 6 (.st 7 (.st 8 (.st 9 (.st 10 (.st 11 (.st 12 (.st 13 (.st 14 (.st 15 (.st 16 (.ld 17 [15] .nil)))))))))))))))))) [17] (by decide +kernel) ?_
            refine GT_st rfl rfl rfl rfl (V_move rfl rfl) ?_
            refine GT_st rfl rfl rfl rfl (V_move rfl rfl) ?_
            refine GT_st rfl rfl rfl rfl (V_move rfl rfl) ?_
            refine GT_st rfl rfl rfl rfl (V_move rfl rfl) ?_
            refine GT_st rfl rfl rfl rfl (V_index rfl rfl rfl Try.underlying24 sz_39 (k := k) rfl hkl (hO.isSome (k := k) (by omega))) ?_
            first | refine GT_st rfl rfl rfl rfl (V_field rfl rfl fo_39_0) ?_ | refine GT_st rfl rfl rfl rfl (V_fieldA rfl rfl fo_39_0) ?_
            refine GT_st rfl rfl rfl rfl (V_load rfl rfl ag_2 (CellAt.own0 hO ePt_len (by omega) rfl)) ?_
            refine GT_st rfl rfl rfl rfl (V_move rfl rfl) ?_
            refine GT_st rfl rfl rfl rfl (V_move rfl rfl) ?_
            refine GT_st rfl rfl rfl rfl (V_index rfl rfl rfl Try.underlying37 sz_40 (k := k) rfl hkd (hr.isSome hkd)) ?_
            first | refine GT_st rfl rfl rfl rfl (V_indexArr (kk := 0) rfl rfl rfl Try.underlying40 sz_5 rfl (by omega)) ?_ | refine GT_st rfl rfl rfl rfl (V_indexArrA (kk := 0) rfl rfl rfl Try.underlying40 sz_5 rfl (by omega)) ?_
            refine GT_st rfl rfl rfl rfl (V_load rfl rfl ag_5 (hr.at0 noM hkd rfl)) ?_
            refine GT_st rfl rfl rfl rfl (V_convII rfl rfl (by rw [Try.underlying5]; rfl) Try.underlying2 (wrap_i64 (by omega))) ?_
            refine GT_st rfl rfl rfl rfl (V_add rfl rfl rfl (wrap_i64 (by omega))) ?_
            refine GT_st rfl rfl rfl rfl (V_min rfl rfl rfl) ?_
            refine GT_st rfl rfl rfl rfl (V_index rfl rfl rfl Try.underlying24 sz_39 (k := k) rfl hkl (hO.isSome (k := k) (by omega))) ?_
            first | refine GT_st rfl rfl rfl rfl (V_field rfl rfl fo_39_0) ?_ | refine GT_st rfl rfl rfl rfl (V_fieldA rfl rfl fo_39_0) ?_
            refine GT_storeF (enc := ePt) (q := k) (j := 0) (xx := ⟨min 4194304 ((l1.getD k default).inn + (d.getD k default).a), (l1.getD k default).out⟩) rfl rfl rfl rfl rfl rfl rfl sz_2 hO ePt_len rfl (by omega) (by decide) rfl (fun _ _ => GR_cons rfl rfl rfl rfl (V_index rfl rfl rfl Try.underlying24 sz_39 (k := k) rfl hkl (hO.isSome (k := k) (by omega))) (GR_nil)) (fun I2 hO2 => ?_)
            refine GT_nil ?_
            refine GE_slots (L' := [(1, _), (2, _), (3, _), (7, _), (8, _), (27, _), (28, _), (29, _), (30, _)]) ⟨rfl, rfl, rfl, rfl, rfl, rfl, rfl, rfl, rfl, trivial⟩ ?_
            have hn2 : Narrower l (l1.set k ⟨min 4194304 ((l1.getD k default).inn + (d.getD k default).a), (l1.getD k default).out⟩) := hn.set hkl (by dsimp only; omega) (by dsimp only; omega)
            generalize l1.set k ⟨min 4194304 ((l1.getD k default).inn + (d.getD k default).a), (l1.getD k default).out⟩ = l2 at *
            have hl2 := hn2.len
            have hq2 := hn2.pts k hkl
            refine GE_drawn (.st 0 (.st 1 (.st 2 (.st 3 (.st 4 (.st 5 (.st 6 (.st 7 (.st 8 (.st 9 (.st 10 (.st 11 (.st 12 (.st 13 (.st 14 (.st 15 (.st 16 (.ld 17 [15] .nil)))))))))))))))))) [17] (by decide +kernel) ?_
            refine GT_st rfl rfl rfl rfl (V_move rfl rfl) ?_
            refine GT_st rfl rfl rfl rfl (V_move rfl rfl) ?_
            refine GT_st rfl rfl rfl rfl (V_move rfl rfl) ?_
            refine GT_st rfl rfl rfl rfl (V_move rfl rfl) ?_
            refine GT_st rfl rfl rfl rfl (V_index rfl rfl rfl Try.underlying24 sz_39 (k := k) rfl hkl (hO2.isSome (k := k) (by omega))) ?_
            first | refine GT_st rfl rfl rfl rfl (V_field rfl rfl fo_39_1) ?_ | refine GT_st rfl rfl rfl rfl (V_fieldA rfl rfl fo_39_1) ?_
            refine GT_st rfl rfl rfl rfl (V_load rfl rfl ag_2 (CellAt.own hO2 ePt_len (by omega) rfl)) ?_
            refine GT_st rfl rfl rfl rfl (V_move rfl rfl) ?_
            refine GT_st rfl rfl rfl rfl (V_move rfl rfl) ?_
            refine GT_st rfl rfl rfl rfl (V_index rfl rfl rfl Try.underlying37 sz_40 (k := k) rfl hkd (hr.isSome hkd)) ?_
            first | refine GT_st rfl rfl rfl rfl (V_indexArr (kk := 1) rfl rfl rfl Try.underlying40 sz_5 rfl (by omega)) ?_ | refine GT_st rfl rfl rfl rfl (V_indexArrA (kk := 1) rfl rfl rfl Try.underlying40 sz_5 rfl (by omega)) ?_
            refine GT_st rfl rfl rfl rfl (V_load rfl rfl ag_5 (hr.at1 noM hkd rfl)) ?_
            refine GT_st rfl rfl rfl rfl (V_convII rfl rfl (by rw [Try.underlying5]; rfl) Try.underlying2 (wrap_i64 (by omega))) ?_
            refine GT_st rfl rfl rfl rfl (V_sub rfl rfl rfl (wrap_i64 (by omega))) ?_
            refine GT_st rfl rfl rfl rfl (V_max rfl rfl rfl) ?_
            refine GT_st rfl rfl rfl rfl (V_index rfl rfl rfl Try.underlying24 sz_39 (k := k) rfl hkl (hO2.isSome (k := k) (by omega))) ?_
            first | refine GT_st rfl rfl rfl rfl (V_field rfl rfl fo_39_1) ?_ | refine GT_st rfl rfl rfl rfl (V_fieldA rfl rfl fo_39_1) ?_
            refine GT_storeF (enc := ePt) (q := k) (j := 1) (xx := ⟨(l2.getD k default).inn, max (-4194304) ((l2.getD k default).out - (d.getD k default).b)⟩) rfl rfl rfl rfl rfl rfl rfl sz_2 hO2 ePt_len rfl (by omega) (by decide) rfl (fun _ _ => GR_cons rfl rfl rfl rfl (V_index rfl rfl rfl Try.underlying24 sz_39 (k := k) rfl hkl (hO2.isSome (k := k) (by omega))) (GR_nil)) (fun I3 hO3 => ?_)
            refine GT_nil ?_
            refine GE_inBlock ?_
            refine GE_slots (L' := [(1, _), (2, _), (3, _), (7, _), (8, _), (27, _), (28, _), (29, _), (30, _)]) ⟨rfl, rfl, rfl, rfl, rfl, rfl, rfl, rfl, rfl, trivial⟩ ?_
            have hn3 : Narrower l (l2.set k ⟨(l2.getD k default).inn, max (-4194304) ((l2.getD k default).out - (d.getD k default).b)⟩) := hn2.set hkl (by dsimp only; omega) (by dsimp only; omega)
            refine GE_plain (.st 0 (.st 1 (.ld 2 [] .nil))) rfl ?_
            refine GT_st rfl rfl rfl rfl (V_move rfl rfl) ?_
            refine GT_st rfl rfl rfl rfl (V_add rfl rfl rfl (wrap_i64 (by omega))) ?_
            refine GT_ldv rfl rfl rfl rfl rfl (V_assign rfl rfl) (GR_nil) ?_
            refine GT_nil ?_
            exact GE_to (ih (k + 1, _, I3) ⟨by dsimp only; omega, hn3, hO3⟩ (by dsimp only; omega)) ⟨rfl, rfl, rfl, rfl, rfl, trivial⟩ (HS.chunk (HS.cons rfl HS.nil))
          · skip
            refine GE_exit rfl ?_
            exact GE_to (hk1 (l1, I1) ⟨hn, by dsimp only; rw [hl1]; exact hO⟩) ⟨rfl, rfl, lookS rfl hl1.symm, trivial⟩ (HS.chunk (HS.cons rfl HS.nil))
        · skip
          refine GT_skip rfl rfl rfl rfl rfl (by decide) rfl rfl ?_
          refine GT_skip rfl rfl rfl rfl rfl (by decide) rfl rfl ?_
          refine GT_skip rfl rfl rfl rfl rfl (by decide) rfl rfl ?_
          refine GT_skip rfl rfl rfl rfl rfl (by decide) rfl rfl ?_
          refine GT_st rfl rfl rfl rfl (V_pick_f rfl rfl rfl) ?_
          refine GT_nil ?_
          refine GE_cond_f rfl ?_
          refine GE_exit rfl ?_
          exact GE_to (hk1 (l1, I1) ⟨hn, by dsimp only; rw [hl1]; exact hO⟩) ⟨rfl, rfl, lookS rfl hl1.symm, trivial⟩ (HS.chunk (HS.cons rfl HS.nil))
      · exact ⟨Nat.zero_le _, Narrower.refl hpb, hO7⟩
end Go.Proofs.Ytacmnmcaeflflaa
