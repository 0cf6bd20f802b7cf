/- the reference's greatest radii, walked -/
import Derived.Test.YtacmnmcaeflflaaLa1
namespace Go.Proofs.Ytacmnmcaeflflaa
open Go.Sx Go.Proofs

theorem C_ref05_greatest {b : Blank} {A : Option Addr} {l : List Pt} {c : Nat} {w : World} (hp : RdL w 2 ePt A l) (hb : b.ok = true) (hl : l.length ≤ 4096) (hpt : l.all ptOk = true) :
    Con Try.prog 63 [b.val, .slice A l.length c] w (fun x : Option Addr × Nat × Items => Own 1 2 eI ((greatest b l).getD []) (.slice x.1 ((greatest b l).getD []).length x.2.1) x.2.2)
      (fun x => .tuple #[.slice x.1 ((greatest b l).getD []).length x.2.1, .bool (greatest b l).isSome]) (fun x => x.2.2) := by
  have hbok := hb
  rw [Blank.ok_iff] at hb
  have hpt' : ∀ q, q < l.length → (-4194304 ≤ (l.getD q default).inn ∧ (l.getD q default).inn ≤ 4194304) ∧ (-4194304 ≤ (l.getD q default).out ∧ (l.getD q default).out ≤ 4194304) := by
    intro q hq
    have := List.all_eq_true.1 hpt _ (List.getElem_mem hq)
    simpa [ptOk, betw_iff, List.getD, hq] using this
  refine Ret_of (vs := [_, _]) hm none' Try.func63 rfl Try.ntmps63 rfl ?_
  dsimp only [slotsOf]
  refine GE_seq ?_
  refine GE_plain (.ld 0 [] (.st 1 (.st 2 .nil))) rfl ?_
  refine GT_box (z := [_, _, _, _, _, _]) rfl rfl rfl rfl rfl rfl rfl (fun _ => GR_nil) (fun b2 => ?_)
  refine GT_st rfl rfl rfl rfl (V_assign rfl rfl) ?_
  refine GT_st rfl rfl rfl rfl (V_assign rfl rfl) ?_
  refine GT_nil ?_
  refine GE_seq ?_
  refine GE_plain (.st 0 (.st 1 (.st 2 .nil))) rfl ?_
  first | refine GT_st rfl rfl rfl rfl (V_field rfl rfl fo_23_0) ?_ | refine GT_st rfl rfl rfl rfl (V_fieldA rfl rfl fo_23_0) ?_
  refine GT_st rfl rfl rfl rfl (V_load rfl rfl ag_2 (CellAt.item rfl)) ?_
  refine GT_st rfl rfl rfl rfl (V_assign rfl rfl) ?_
  refine GT_nil ?_
  refine GE_seq ?_
  refine GE_slots (L' := [(1, _), (2, _), (6, _)]) ⟨rfl, rfl, rfl, trivial⟩ ?_
  refine GE_plain (.st 0 .nil) rfl ?_
  refine GT_st rfl rfl rfl rfl (V_assign rfl rfl) ?_
  refine GT_nil ?_
  refine GE_seq ?_
  refine GE_seq ?_
  refine GE_plain (.st 0 .nil) rfl ?_
  refine GT_st rfl rfl rfl rfl (V_assign rfl rfl) ?_
  refine GT_nil ?_
  refine GE_block ?_
  refine GE_to (GE_loop (ι := Nat × Option Addr × Nat × Items) (fun x => l.length - x.1) (fun x => [(1, .slice A l.length c), (2, ptr b2 0), (6, I b.per), (7, .slice x.2.1 (start b (l.take x.1)).length x.2.2.1), (8, I x.1)]) (fun x => x.2.2.2 ++ [(b2, blk b.cells 23)]) (fun x => x.1 ≤ l.length ∧ Own 1 2 eI (start b (l.take x.1)) (.slice x.2.1 (start b (l.take x.1)).length x.2.2.1) x.2.2.2) ?_ (0, none, 0, []) ?_) ⟨rfl, rfl, rfl, rfl, rfl, trivial⟩ (HS.chunk (HS.cons rfl HS.nil))
  · rintro ⟨k, A1, c1, I1⟩ ⟨hk, hO⟩ ih; dsimp only at hk hO ih ⊢
    refine GE_seq ?_
    refine GE_seq ?_
    refine GE_plain (.st 0 (.st 1 (.st 2 (.st 3 .nil)))) rfl ?_
    refine GT_st rfl rfl rfl rfl (V_move rfl rfl) ?_
    refine GT_st rfl rfl rfl rfl (V_move rfl rfl) ?_
    refine GT_st rfl rfl rfl rfl (V_len rfl Try.underlying24 rfl) ?_
    refine GT_st rfl rfl rfl rfl (V_lss rfl rfl rfl) ?_
    refine GT_nil ?_
    first | refine GE_condNot rfl (fun h2 => ?_) (fun h2 => ?_) | refine GE_cond rfl (fun h2 => ?_) (fun h2 => ?_) | refine GE_condNotB rfl (fun h2 => ?_) (fun h2 => ?_) | refine GE_condB rfl (fun h2 => ?_) (fun h2 => ?_)
    · have hlt : k < l.length := (by omega); have hq := hpt' k hlt
      refine GE_skip ?_
      refine GE_seq ?_
      refine GE_block ?_
      refine GE_slots (L' := [(1, _), (2, _), (6, _), (7, _), (8, _)]) ⟨rfl, rfl, rfl, rfl, rfl, trivial⟩ ?_
      refine GE_drawn (.st 0 (.st 1 (.st 2 (.st 3 (.st 4 (.st 5 (.st 6 (.st 7 (.st 8 (.ld 9 [0, 1, 2, 3, 4, 5, 6, 7] (.ld 10 [1, 2, 3, 4, 5, 6, 7, 8] (.ld 11 [] .nil)))))))))))) [9, 10, 11] (by decide +kernel) ?_
      refine GT_st rfl rfl rfl rfl (V_move rfl rfl) ?_
      first | refine GT_st rfl rfl rfl rfl (V_field rfl rfl fo_23_1) ?_ | refine GT_st rfl rfl rfl rfl (V_fieldA rfl rfl fo_23_1) ?_
      refine GT_st rfl rfl rfl rfl (V_load rfl rfl ag_2 (CellAt.item rfl)) ?_
      refine GT_st rfl rfl rfl rfl (V_move rfl rfl) ?_
      refine GT_st rfl rfl rfl rfl (V_move rfl rfl) ?_
      refine GT_st rfl rfl rfl rfl (V_index rfl rfl rfl Try.underlying24 sz_39 rfl hlt (hp.isSome hlt)) ?_
      first | refine GT_st rfl rfl rfl rfl (V_field rfl rfl fo_39_1) ?_ | refine GT_st rfl rfl rfl rfl (V_fieldA rfl rfl fo_39_1) ?_
      refine GT_st rfl rfl rfl rfl (V_load rfl rfl ag_2 (hp.at1 noM hlt rfl)) ?_
      refine GT_st rfl rfl rfl rfl (V_sub rfl rfl rfl (wrap_i64 (by omega))) ?_
      refine GT_buildSlice (z := [_]) rfl rfl rfl rfl rfl Try.underlying25 zc_2 sz_2 (by decide) rfl rfl (fun _ => GR_cons rfl rfl rfl rfl (V_move rfl rfl) (GR_cons rfl rfl rfl rfl ((by first | exact V_field rfl rfl fo_23_1 | exact V_fieldA rfl rfl fo_23_1)) (GR_cons rfl rfl rfl rfl (V_load rfl rfl ag_2 (CellAt.item rfl)) (GR_cons rfl rfl rfl rfl (V_move rfl rfl) (GR_cons rfl rfl rfl rfl (V_move rfl rfl) (GR_cons rfl rfl rfl rfl (V_index rfl rfl rfl Try.underlying24 sz_39 rfl hlt (hp.isSome hlt)) (GR_cons rfl rfl rfl rfl ((by first | exact V_field rfl rfl fo_39_1 | exact V_fieldA rfl rfl fo_39_1)) (GR_cons rfl rfl rfl rfl (V_load rfl rfl ag_2 (hp.at1 noM hlt rfl)) (GR_nil))))))))) (fun b30 => ?_)
      refine GT_append (α := Int) (enc := eI) (m := [b.rim - (l.getD k default).out]) rfl rfl rfl rfl rfl rfl rfl hO (fun w m => RdL.own' m eI_len) Try.underlying25 zc_2 sz_2 ⟨rfl, by decide⟩ by_2 ⟨by rw [start_length, List.length_take]; simp; omega, by rw [start_length, List.length_take]; simp; omega⟩ eI_len eI_one (fun _ _ _ _ => GR_cons rfl rfl rfl rfl ((by first | exact V_field rfl rfl fo_23_1 | exact V_fieldA rfl rfl fo_23_1)) (GR_cons rfl rfl rfl rfl (V_load rfl rfl ag_2 (CellAt.item rfl)) (GR_cons rfl rfl rfl rfl (V_move rfl rfl) (GR_cons rfl rfl rfl rfl (V_move rfl rfl) (GR_cons rfl rfl rfl rfl (V_index rfl rfl rfl Try.underlying24 sz_39 rfl hlt (hp.isSome hlt)) (GR_cons rfl rfl rfl rfl ((by first | exact V_field rfl rfl fo_39_1 | exact V_fieldA rfl rfl fo_39_1)) (GR_cons rfl rfl rfl rfl (V_load rfl rfl ag_2 (hp.at1 noM hlt rfl)) (GR_cons rfl rfl rfl rfl (V_sub rfl rfl rfl (wrap_i64 (by omega))) (GR_nil))))))))) (fun A' c' I' hO' => ?_)
      rw [start_snoc hlt] at hO' ⊢
      refine GT_ldv rfl rfl rfl rfl rfl (V_assign rfl rfl) (GR_nil) ?_
      refine GT_nil ?_
      refine GE_inBlock ?_
      refine GE_slots (L' := [(1, _), (2, _), (6, _), (7, _), (8, _)]) ⟨rfl, rfl, rfl, rfl, rfl, trivial⟩ ?_
      refine GE_plain (.st 0 (.st 1 (.ld 2 [] .nil))) rfl ?_
      refine GT_st rfl rfl rfl rfl (V_move rfl rfl) ?_
      refine GT_st rfl rfl rfl rfl (V_add rfl rfl rfl (wrap_i64 (by omega))) ?_
      refine GT_ldv rfl rfl rfl rfl rfl (V_assign rfl rfl) (GR_nil) ?_
      refine GT_nil ?_
      exact GE_to (ih (k + 1, A', c', I') ⟨by dsimp only; omega, hO'⟩ (by dsimp only; omega)) ⟨rfl, rfl, rfl, rfl, rfl, trivial⟩ (HS.chunk (HS.cons rfl HS.nil))
    · obtain rfl : k = l.length := (by omega); rw [List.take_length] at hO ⊢; have hsl := start_length b l; rw [hsl] at hO ⊢
      refine GE_exit rfl ?_
      refine GE_seq ?_
      refine GE_seq ?_
      refine GE_slots (L' := [(1, _), (2, _), (6, _), (7, _)]) ⟨rfl, rfl, rfl, rfl, trivial⟩ ?_
      refine GE_plain (.st 0 .nil) rfl ?_
      refine GT_st rfl rfl rfl rfl (V_assign rfl rfl) ?_
      refine GT_nil ?_
      refine GE_block ?_
      refine GE_to (GE_loop (ι := Nat × List Int × Items) (fun x => l.length + 2 - x.1) (fun x => [(1, .slice A l.length c), (2, ptr b2 0), (6, I b.per), (7, .slice A1 l.length c1), (9, I x.1)]) (fun x => x.2.2 ++ [(b2, blk b.cells 23)]) (fun x => x.1 ≤ l.length + 2 ∧ x.2.1.length = l.length ∧ Bd x.2.1 l.length (-(16777216 * (4096 * (x.1 : Int) + 1))) ∧ Own 1 2 eI x.2.1 (.slice A1 l.length c1) x.2.2 ∧ grounds b l (l.length + 2 - x.1) x.2.1 = greatest b l) ?_ (0, start b l, I1) ?_) ⟨rfl, rfl, rfl, rfl, rfl, trivial⟩ (HS.chunk (HS.cons rfl HS.nil))
      · rintro ⟨s, r, I2⟩ ⟨hs, hr, hbd, hO2, hgr⟩ ih2; dsimp only at hs hr hbd hO2 hgr ih2 ⊢
        refine GE_seq ?_
        refine GE_seq ?_
        refine GE_plain (.st 0 (.st 1 (.st 2 (.st 3 (.st 4 .nil))))) rfl ?_
        refine GT_st rfl rfl rfl rfl (V_move rfl rfl) ?_
        refine GT_st rfl rfl rfl rfl (V_move rfl rfl) ?_
        refine GT_st rfl rfl rfl rfl (V_len rfl Try.underlying24 rfl) ?_
        refine GT_st rfl rfl rfl rfl (V_add rfl rfl rfl (wrap_i64 (by omega))) ?_
        refine GT_st rfl rfl rfl rfl (V_leq rfl rfl rfl) ?_
        refine GT_nil ?_
        first | refine GE_condNot rfl (fun h4 => ?_) (fun h4 => ?_) | refine GE_cond rfl (fun h4 => ?_) (fun h4 => ?_) | refine GE_condNotB rfl (fun h4 => ?_) (fun h4 => ?_) | refine GE_condB rfl (fun h4 => ?_) (fun h4 => ?_)
        · skip
          refine GE_skip ?_
          refine GE_seq ?_
          refine GE_block ?_
          refine GE_seq ?_
          refine GE_slots (L' := [(1, _), (2, _), (6, _), (7, _), (9, _)]) ⟨rfl, rfl, rfl, rfl, rfl, trivial⟩ ?_
          refine GE_plain (.st 0 .nil) rfl ?_
          refine GT_st rfl rfl rfl rfl (V_assign rfl rfl) ?_
          refine GT_nil ?_
          refine GE_seq ?_
          refine GE_seq ?_
          refine GE_plain (.st 0 .nil) rfl ?_
          refine GT_st rfl rfl rfl rfl (V_assign rfl rfl) ?_
          refine GT_nil ?_
          refine GE_block ?_
          refine GE_to (GE_loop (ι := Nat × List Int × Bool × Items) (fun x => l.length - x.1) (fun x => [(1, .slice A l.length c), (2, ptr b2 0), (6, I b.per), (7, .slice A1 l.length c1), (9, I s), (10, .bool x.2.2.1), (11, I x.1)]) (fun x => x.2.2.2 ++ [(b2, blk b.cells 23)]) (fun x => x.1 ≤ l.length ∧ x.2.1.length = l.length ∧ Bd x.2.1 l.length (-(16777216 * (4096 * (s : Int) + x.1 + 1))) ∧ Own 1 2 eI x.2.1 (.slice A1 l.length c1) x.2.2.2 ∧ sweepTo b l x.1 r = (x.2.1, x.2.2.1)) ?_ (0, r, false, I2) ?_) ⟨rfl, rfl, rfl, rfl, rfl, rfl, rfl, trivial⟩ (HS.chunk (HS.cons rfl HS.nil))
          · rintro ⟨i, r3, ch, I3⟩ ⟨hi, hr3, hbd3, hO3, hsw⟩ ih3; dsimp only at hi hr3 hbd3 hO3 hsw ih3 ⊢
            refine GE_seq ?_
            refine GE_seq ?_
            refine GE_plain (.st 0 (.st 1 (.st 2 (.st 3 .nil)))) rfl ?_
            refine GT_st rfl rfl rfl rfl (V_move rfl rfl) ?_
            refine GT_st rfl rfl rfl rfl (V_move rfl rfl) ?_
            refine GT_st rfl rfl rfl rfl (V_len rfl Try.underlying24 rfl) ?_
            refine GT_st rfl rfl rfl rfl (V_lss rfl rfl rfl) ?_
            refine GT_nil ?_
            first | refine GE_condNot rfl (fun h5 => ?_) (fun h5 => ?_) | refine GE_cond rfl (fun h5 => ?_) (fun h5 => ?_) | refine GE_condNotB rfl (fun h5 => ?_) (fun h5 => ?_) | refine GE_condB rfl (fun h5 => ?_) (fun h5 => ?_)
            · have hlt3 : i < l.length := (by omega); have hb0 := hbd3 i hlt3
              refine GE_skip ?_
              refine GE_seq ?_
              refine GE_block ?_
              refine GE_seq ?_
              refine GE_slots (L' := [(1, _), (2, _), (6, _), (7, _), (9, _), (10, _), (11, _)]) ⟨rfl, rfl, rfl, rfl, rfl, rfl, rfl, trivial⟩ ?_
              refine GE_plain (.st 0 (.st 1 (.st 2 (.st 3 (.st 4 .nil))))) rfl ?_
              refine GT_st rfl rfl rfl rfl (V_move rfl rfl) ?_
              refine GT_st rfl rfl rfl rfl (V_move rfl rfl) ?_
              refine GT_st rfl rfl rfl rfl (V_index rfl rfl rfl Try.underlying25 sz_2 rfl (by omega) (hO3.isSome (k := i) (by omega))) ?_
              refine GT_st rfl rfl rfl rfl (V_load rfl rfl ag_2 (CellAt.own0 hO3 eI_len (by omega) rfl)) ?_
              refine GT_st rfl rfl rfl rfl (V_assign rfl rfl) ?_
              refine GT_nil ?_
              refine GE_cut (ι := Int) (fun x => [(1, .slice A l.length c), (2, ptr b2 0), (6, I b.per), (7, .slice A1 l.length c1), (9, I s), (10, .bool ch), (11, I i), (12, I x)]) (fun x => I3 ++ [(b2, blk b.cells 23)]) (fun x => x = most1 b r3 i) ?_ (fun hk => ?_)
              · rintro x rfl
                refine GE_cut (ι := Int) (fun x => [(1, .slice A l.length c), (2, ptr b2 0), (6, I b.per), (7, .slice A1 l.length c1), (9, I s), (10, .bool ch), (11, I i), (12, I x)]) (fun x => I3 ++ [(b2, blk b.cells 23)]) (fun x => x = most2 b l r3 i) ?_ (fun hk2 => ?_)
                · rintro x rfl
                  refine GE_cut (ι := Int) (fun x => [(1, .slice A l.length c), (2, ptr b2 0), (6, I b.per), (7, .slice A1 l.length c1), (9, I s), (10, .bool ch), (11, I i), (12, I x)]) (fun x => I3 ++ [(b2, blk b.cells 23)]) (fun x => x = most b l r3 i) ?_ (fun hk3 => ?_)
                  · rintro x rfl
                    refine GE_seq ?_
                    have hm3 := most_bd hbok hbd3 hlt3 hpt'
                    have hbd4 := Bd.set (i := i) hbd3 (by omega) hm3
                    refine GE_plain (.st 0 (.st 1 (.st 2 (.st 3 (.st 4 (.st 5 (.st 6 (.st 7 (.st 8 (.ld 9 [] .nil)))))))))) rfl ?_
                    refine GT_st rfl rfl rfl rfl (V_move rfl rfl) ?_
                    refine GT_st rfl rfl rfl rfl (V_move rfl rfl) ?_
                    first | refine GT_splitNot (d := 105) rfl (fun hchv => ?_) (fun hchv => ?_) | refine GT_split (d := 105) rfl (fun hchv => ?_) (fun hchv => ?_) | refine GT_splitNotB (d := 105) rfl (fun hchv => ?_) (fun hchv => ?_) | refine GT_splitB (d := 105) rfl (fun hchv => ?_) (fun hchv => ?_)
                    · subst hchv
                      refine GT_skip rfl rfl rfl rfl rfl (by decide) rfl rfl ?_
                      refine GT_skip rfl rfl rfl rfl rfl (by decide) rfl rfl ?_
                      refine GT_skip rfl rfl rfl rfl rfl (by decide) rfl rfl ?_
                      refine GT_skip rfl rfl rfl rfl rfl (by decide) rfl rfl ?_
                      refine GT_skip rfl rfl rfl rfl rfl (by decide) rfl rfl ?_
                      refine GT_skip rfl rfl rfl rfl rfl (by decide) rfl rfl ?_
                      refine GT_st rfl rfl rfl rfl (V_pick_t rfl rfl rfl) ?_
                      refine GT_ldv rfl rfl rfl rfl rfl (V_assign rfl rfl) (GR_nil) ?_
                      refine GT_nil ?_
                      refine GE_plain (.st 0 (.st 1 (.st 2 (.st 3 (.ld 4 [] .nil))))) rfl ?_
                      refine GT_st rfl rfl rfl rfl (V_move rfl rfl) ?_
                      refine GT_st rfl rfl rfl rfl (V_move rfl rfl) ?_
                      refine GT_st rfl rfl rfl rfl (V_move rfl rfl) ?_
                      refine GT_st rfl rfl rfl rfl (V_index rfl rfl rfl Try.underlying25 sz_2 rfl (by omega) (hO3.isSome (k := i) (by omega))) ?_
                      refine GT_storeOwn (enc := eI) (q := i) (xx := most b l r3 i) rfl rfl rfl rfl rfl rfl rfl sz_2 hO3 eI_len eI_one (by omega) (by decide) (fun _ _ => GR_nil) (fun I4 hO4 => ?_)
                      refine GT_nil ?_
                      refine GE_inBlock ?_
                      refine GE_slots (L' := [(1, _), (2, _), (6, _), (7, _), (9, _), (10, _), (11, _), (106, _), (107, _), (108, _), (109, _), (110, _), (111, _)]) ⟨rfl, rfl, rfl, rfl, rfl, rfl, rfl, rfl, rfl, rfl, rfl, rfl, rfl, trivial⟩ ?_
                      refine GE_plain (.st 0 (.st 1 (.ld 2 [] .nil))) rfl ?_
                      refine GT_st rfl rfl rfl rfl (V_move rfl rfl) ?_
                      refine GT_st rfl rfl rfl rfl (V_add rfl rfl rfl (wrap_i64 (by omega))) ?_
                      refine GT_ldv rfl rfl rfl rfl rfl (V_assign rfl rfl) (GR_nil) ?_
                      refine GT_nil ?_
                      first
                        | exact GE_to (ih3 (i + 1, r3.set i (most b l r3 i), true || decide (most b l r3 i < r3.getD i default), I4) ⟨by dsimp only; omega, by simpa using hr3, (fun q hq => by have := hbd4 q hq; dsimp only at this ⊢; omega), hO4, by simp only [sweepTo, hsw]⟩ (by dsimp only; omega)) ⟨rfl, rfl, rfl, rfl, rfl, rfl, rfl, trivial⟩ (HS.chunk (HS.cons rfl HS.nil))
                        | exact GE_to (ih3 (i + 1, r3.set i (most b l r3 i), false || decide (most b l r3 i < r3.getD i default), I4) ⟨by dsimp only; omega, by simpa using hr3, (fun q hq => by have := hbd4 q hq; dsimp only at this ⊢; omega), hO4, by simp only [sweepTo, hsw]⟩ (by dsimp only; omega)) ⟨rfl, rfl, rfl, rfl, rfl, rfl, rfl, trivial⟩ (HS.chunk (HS.cons rfl HS.nil))
                    · subst hchv
                      refine GT_st_g rfl rfl rfl rfl rfl rfl rfl (V_move rfl rfl) ?_
                      refine GT_st_g rfl rfl rfl rfl rfl rfl rfl (V_move rfl rfl) ?_
                      refine GT_st_g rfl rfl rfl rfl rfl rfl rfl (V_move rfl rfl) ?_
                      refine GT_st_g rfl rfl rfl rfl rfl rfl rfl (V_index rfl rfl rfl Try.underlying25 sz_2 rfl (by omega) (hO3.isSome (k := i) (by omega))) ?_
                      refine GT_st_g rfl rfl rfl rfl rfl rfl rfl (V_load rfl rfl ag_2 (CellAt.own0 hO3 eI_len (by omega) rfl)) ?_
                      refine GT_st_g rfl rfl rfl rfl rfl rfl rfl (V_lss rfl rfl rfl) ?_
                      refine GT_st rfl rfl rfl rfl (V_pick_f rfl rfl rfl) ?_
                      refine GT_ldv rfl rfl rfl rfl rfl (V_assign rfl rfl) (GR_nil) ?_
                      refine GT_nil ?_
                      refine GE_plain (.st 0 (.st 1 (.st 2 (.st 3 (.ld 4 [] .nil))))) rfl ?_
                      refine GT_st rfl rfl rfl rfl (V_move rfl rfl) ?_
                      refine GT_st rfl rfl rfl rfl (V_move rfl rfl) ?_
                      refine GT_st rfl rfl rfl rfl (V_move rfl rfl) ?_
                      refine GT_st rfl rfl rfl rfl (V_index rfl rfl rfl Try.underlying25 sz_2 rfl (by omega) (hO3.isSome (k := i) (by omega))) ?_
                      refine GT_storeOwn (enc := eI) (q := i) (xx := most b l r3 i) rfl rfl rfl rfl rfl rfl rfl sz_2 hO3 eI_len eI_one (by omega) (by decide) (fun _ _ => GR_nil) (fun I4 hO4 => ?_)
                      refine GT_nil ?_
                      refine GE_inBlock ?_
                      refine GE_slots (L' := [(1, _), (2, _), (6, _), (7, _), (9, _), (10, _), (11, _), (106, _), (107, _), (108, _), (109, _), (110, _), (111, _)]) ⟨rfl, rfl, rfl, rfl, rfl, rfl, rfl, rfl, rfl, rfl, rfl, rfl, rfl, trivial⟩ ?_
                      refine GE_plain (.st 0 (.st 1 (.ld 2 [] .nil))) rfl ?_
                      refine GT_st rfl rfl rfl rfl (V_move rfl rfl) ?_
                      refine GT_st rfl rfl rfl rfl (V_add rfl rfl rfl (wrap_i64 (by omega))) ?_
                      refine GT_ldv rfl rfl rfl rfl rfl (V_assign rfl rfl) (GR_nil) ?_
                      refine GT_nil ?_
                      first
                        | exact GE_to (ih3 (i + 1, r3.set i (most b l r3 i), true || decide (most b l r3 i < r3.getD i default), I4) ⟨by dsimp only; omega, by simpa using hr3, (fun q hq => by have := hbd4 q hq; dsimp only at this ⊢; omega), hO4, by simp only [sweepTo, hsw]⟩ (by dsimp only; omega)) ⟨rfl, rfl, rfl, rfl, rfl, rfl, rfl, trivial⟩ (HS.chunk (HS.cons rfl HS.nil))
                        | exact GE_to (ih3 (i + 1, r3.set i (most b l r3 i), false || decide (most b l r3 i < r3.getD i default), I4) ⟨by dsimp only; omega, by simpa using hr3, (fun q hq => by have := hbd4 q hq; dsimp only at this ⊢; omega), hO4, by simp only [sweepTo, hsw]⟩ (by dsimp only; omega)) ⟨rfl, rfl, rfl, rfl, rfl, rfl, rfl, trivial⟩ (HS.chunk (HS.cons rfl HS.nil))
                  · skip
                    refine GE_seq ?_
                    have hm2 := most2_bd hbok hbd3 hlt3 hpt'
                    refine GE_plain (.st 0 (.st 1 (.st 2 (.st 3 (.st 4 .nil))))) rfl ?_
                    refine GT_st rfl rfl rfl rfl (V_move rfl rfl) ?_
                    refine GT_st rfl rfl rfl rfl (V_add rfl rfl rfl (wrap_i64 (by omega))) ?_
                    refine GT_st rfl rfl rfl rfl (V_move rfl rfl) ?_
                    refine GT_st rfl rfl rfl rfl (V_len rfl Try.underlying24 rfl) ?_
                    refine GT_st rfl rfl rfl rfl (V_lss rfl rfl rfl) ?_
                    refine GT_nil ?_
                    first | refine GE_condNot rfl (fun h8 => ?_) (fun h8 => ?_) | refine GE_cond rfl (fun h8 => ?_) (fun h8 => ?_) | refine GE_condNotB rfl (fun h8 => ?_) (fun h8 => ?_) | refine GE_condB rfl (fun h8 => ?_) (fun h8 => ?_)
                    · have hin : i + 1 < l.length := (by omega); have hb3 := hbd3 (i + 1) (by omega)
                      refine GE_slots (L' := [(1, _), (2, _), (6, _), (7, _), (9, _), (10, _), (11, _), (12, _)]) ⟨rfl, rfl, rfl, rfl, rfl, rfl, rfl, rfl, trivial⟩ ?_
                      refine GE_drawn (.st 0 (.st 1 (.st 2 (.st 3 (.st 4 (.st 5 (.st 6 (.st 7 (.st 8 (.st 9 (.ld 10 [] .nil))))))))))) [10] (by decide +kernel) ?_
                      refine GT_st rfl rfl rfl rfl (V_move rfl rfl) ?_
                      refine GT_st rfl rfl rfl rfl (V_move rfl rfl) ?_
                      refine GT_st rfl rfl rfl rfl (V_move rfl rfl) ?_
                      refine GT_st rfl rfl rfl rfl (V_add rfl rfl rfl (wrap_i64 (by omega))) ?_
                      refine GT_st rfl rfl rfl rfl (V_index rfl rfl rfl Try.underlying25 sz_2 (k := i + 1) rfl (by omega) (hO3.isSome (k := i) (by omega))) ?_
                      refine GT_st rfl rfl rfl rfl (V_load rfl rfl ag_2 (CellAt.own0 hO3 eI_len (by omega) rfl)) ?_
                      first | refine GT_st rfl rfl rfl rfl (V_field rfl rfl fo_23_5) ?_ | refine GT_st rfl rfl rfl rfl (V_fieldA rfl rfl fo_23_5) ?_
                      refine GT_st rfl rfl rfl rfl (V_load rfl rfl ag_2 (CellAt.item rfl)) ?_
                      refine GT_st rfl rfl rfl rfl (V_add rfl rfl rfl (wrap_i64 (by omega))) ?_
                      refine GT_st rfl rfl rfl rfl (V_min rfl rfl rfl) ?_
                      refine GT_ldv rfl rfl rfl rfl rfl (V_assign rfl rfl) (GR_nil) ?_
                      refine GT_nil ?_
                      refine GE_to (hk3 _ ?_) ⟨rfl, rfl, rfl, rfl, rfl, rfl, rfl, rfl, trivial⟩ (HS.chunk (HS.cons rfl HS.nil))
                      simp [most, *]
                    · have hin : ¬ i + 1 < l.length := by omega
                      refine GE_skip ?_
                      refine GE_to (hk3 _ ?_) ⟨rfl, rfl, rfl, rfl, rfl, rfl, rfl, rfl, trivial⟩ (HS.chunk (HS.cons rfl HS.nil))
                      simp [most, *]
                · skip
                  refine GE_seq ?_
                  have hm1 := most1_bd hbok hbd3 hlt3
                  refine GE_plain (.st 0 (.st 1 (.st 2 .nil))) rfl ?_
                  refine GT_st rfl rfl rfl rfl (V_move rfl rfl) ?_
                  refine GT_st rfl rfl rfl rfl (V_move rfl rfl) ?_
                  refine GT_st rfl rfl rfl rfl (V_geq rfl rfl rfl) ?_
                  refine GT_nil ?_
                  first | refine GE_condNot rfl (fun h7 => ?_) (fun h7 => ?_) | refine GE_cond rfl (fun h7 => ?_) (fun h7 => ?_) | refine GE_condNotB rfl (fun h7 => ?_) (fun h7 => ?_) | refine GE_condB rfl (fun h7 => ?_) (fun h7 => ?_)
                  · have hper : b.per ≤ (i : Int) := (by assumption); have hq1 := hpt' (i - b.per.toNat) (by omega); have hq2 := hpt' i hlt3; have hb2 := hbd3 (i - b.per.toNat) (by omega)
                    refine GE_drawn (.st 0 (.st 1 (.st 2 (.st 3 (.st 4 (.st 5 (.st 6 (.st 7 (.st 8 (.st 9 (.st 10 (.st 11 (.st 12 (.st 13 (.st 14 (.st 15 (.st 16 (.st 17 (.st 18 (.st 19 (.st 20 (.st 21 (.st 22 (.st 23 (.st 24 (.ld 25 [] .nil)))))))))))))))))))))))))) [25] (by decide +kernel) ?_
                    refine GT_st rfl rfl rfl rfl (V_move rfl rfl) ?_
                    refine GT_st rfl rfl rfl rfl (V_move rfl rfl) ?_
                    refine GT_st rfl rfl rfl rfl (V_move rfl rfl) ?_
                    refine GT_st rfl rfl rfl rfl (V_move rfl rfl) ?_
                    refine GT_st rfl rfl rfl rfl (V_sub rfl rfl rfl (wrap_i64 (by omega))) ?_
                    refine GT_st rfl rfl rfl rfl (V_index rfl rfl rfl Try.underlying25 sz_2 (k := i - b.per.toNat) (by omega) (by omega) (hO3.isSome (k := i) (by omega))) ?_
                    refine GT_st rfl rfl rfl rfl (V_load rfl rfl ag_2 (CellAt.own0 hO3 eI_len (by omega) rfl)) ?_
                    refine GT_st rfl rfl rfl rfl (V_move rfl rfl) ?_
                    refine GT_st rfl rfl rfl rfl (V_move rfl rfl) ?_
                    refine GT_st rfl rfl rfl rfl (V_move rfl rfl) ?_
                    refine GT_st rfl rfl rfl rfl (V_sub rfl rfl rfl (wrap_i64 (by omega))) ?_
                    refine GT_st rfl rfl rfl rfl (V_index rfl rfl rfl Try.underlying24 sz_39 (k := i - b.per.toNat) (by omega) (by omega) (hp.isSome hlt3)) ?_
                    first | refine GT_st rfl rfl rfl rfl (V_field rfl rfl fo_39_0) ?_ | refine GT_st rfl rfl rfl rfl (V_fieldA rfl rfl fo_39_0) ?_
                    refine GT_st rfl rfl rfl rfl (V_load rfl rfl ag_2 (hp.at0 noM (by omega) rfl)) ?_
                    refine GT_st rfl rfl rfl rfl (V_add rfl rfl rfl (wrap_i64 (by omega))) ?_
                    refine GT_st rfl rfl rfl rfl (V_move rfl rfl) ?_
                    refine GT_st rfl rfl rfl rfl (V_move rfl rfl) ?_
                    refine GT_st rfl rfl rfl rfl (V_index rfl rfl rfl Try.underlying24 sz_39 rfl (by omega) (hp.isSome hlt3)) ?_
                    first | refine GT_st rfl rfl rfl rfl (V_field rfl rfl fo_39_1) ?_ | refine GT_st rfl rfl rfl rfl (V_fieldA rfl rfl fo_39_1) ?_
                    refine GT_st rfl rfl rfl rfl (V_load rfl rfl ag_2 (hp.at1 noM (by omega) rfl)) ?_
                    refine GT_st rfl rfl rfl rfl (V_sub rfl rfl rfl (wrap_i64 (by omega))) ?_
                    first | refine GT_st rfl rfl rfl rfl (V_field rfl rfl fo_23_3) ?_ | refine GT_st rfl rfl rfl rfl (V_fieldA rfl rfl fo_23_3) ?_
                    refine GT_st rfl rfl rfl rfl (V_load rfl rfl ag_2 (CellAt.item rfl)) ?_
                    refine GT_st rfl rfl rfl rfl (V_sub rfl rfl rfl (wrap_i64 (by omega))) ?_
                    refine GT_st rfl rfl rfl rfl (V_min rfl rfl rfl) ?_
                    refine GT_ldv rfl rfl rfl rfl rfl (V_assign rfl rfl) (GR_nil) ?_
                    refine GT_nil ?_
                    refine GE_to (hk2 _ ?_) ⟨rfl, rfl, rfl, rfl, rfl, rfl, rfl, rfl, trivial⟩ (HS.chunk (HS.cons rfl HS.nil))
                    simp [most2, *]
                  · skip
                    refine GE_skip ?_
                    refine GE_to (hk2 _ ?_) ⟨rfl, rfl, rfl, rfl, rfl, rfl, rfl, rfl, trivial⟩ (HS.chunk (HS.cons rfl HS.nil))
                    simp [most2, *]
              · skip
                refine GE_seq ?_
                refine GE_slots (L' := [(1, _), (2, _), (6, _), (7, _), (9, _), (10, _), (11, _), (12, _)]) ⟨rfl, rfl, rfl, rfl, rfl, rfl, rfl, rfl, trivial⟩ ?_
                refine GE_plain (.st 0 (.st 1 .nil)) rfl ?_
                refine GT_st rfl rfl rfl rfl (V_move rfl rfl) ?_
                refine GT_st rfl rfl rfl rfl (V_gtr rfl rfl rfl) ?_
                refine GT_nil ?_
                first | refine GE_condNot rfl (fun h6 => ?_) (fun h6 => ?_) | refine GE_cond rfl (fun h6 => ?_) (fun h6 => ?_) | refine GE_condNotB rfl (fun h6 => ?_) (fun h6 => ?_) | refine GE_condB rfl (fun h6 => ?_) (fun h6 => ?_)
                · have hi0 : 0 < i := (by omega); have hb1 := hbd3 (i - 1) (by omega)
                  refine GE_drawn (.st 0 (.st 1 (.st 2 (.st 3 (.st 4 (.st 5 (.st 6 (.st 7 (.st 8 (.st 9 (.ld 10 [] .nil))))))))))) [10] (by decide +kernel) ?_
                  refine GT_st rfl rfl rfl rfl (V_move rfl rfl) ?_
                  refine GT_st rfl rfl rfl rfl (V_move rfl rfl) ?_
                  refine GT_st rfl rfl rfl rfl (V_move rfl rfl) ?_
                  refine GT_st rfl rfl rfl rfl (V_sub rfl rfl rfl (wrap_i64 (by omega))) ?_
                  refine GT_st rfl rfl rfl rfl (V_index rfl rfl rfl Try.underlying25 sz_2 (k := i - 1) (by omega) (by omega) (hO3.isSome (k := i) (by omega))) ?_
                  refine GT_st rfl rfl rfl rfl (V_load rfl rfl ag_2 (CellAt.own0 hO3 eI_len (by omega) rfl)) ?_
                  first | refine GT_st rfl rfl rfl rfl (V_field rfl rfl fo_23_4) ?_ | refine GT_st rfl rfl rfl rfl (V_fieldA rfl rfl fo_23_4) ?_
                  refine GT_st rfl rfl rfl rfl (V_load rfl rfl ag_2 (CellAt.item rfl)) ?_
                  refine GT_st rfl rfl rfl rfl (V_sub rfl rfl rfl (wrap_i64 (by omega))) ?_
                  refine GT_st rfl rfl rfl rfl (V_min rfl rfl rfl) ?_
                  refine GT_ldv rfl rfl rfl rfl rfl (V_assign rfl rfl) (GR_nil) ?_
                  refine GT_nil ?_
                  refine GE_to (hk _ ?_) ⟨rfl, rfl, rfl, rfl, rfl, rfl, rfl, rfl, trivial⟩ (HS.chunk (HS.cons rfl HS.nil))
                  simp [most1, *]
                · have hi0 : ¬ 0 < i := by omega
                  refine GE_skip ?_
                  refine GE_to (hk _ ?_) ⟨rfl, rfl, rfl, rfl, rfl, rfl, rfl, rfl, trivial⟩ (HS.chunk (HS.cons rfl HS.nil))
                  simp [most1, *]
            · obtain rfl : i = l.length := by omega
              refine GE_exit rfl ?_
              refine GE_seq ?_
              refine GE_slots (L' := [(1, _), (2, _), (6, _), (7, _), (9, _), (10, _)]) ⟨rfl, rfl, rfl, rfl, rfl, rfl, trivial⟩ ?_
              refine GE_plain (.st 0 (.st 1 .nil)) rfl ?_
              refine GT_st rfl rfl rfl rfl (V_move rfl rfl) ?_
              first | refine GT_st rfl rfl rfl rfl (V_not rfl rfl) ?_ | refine GT_st rfl rfl rfl rfl (V_notB rfl rfl) ?_
              refine GT_nil ?_
              first | refine GE_condNot rfl (fun hch => ?_) (fun hch => ?_) | refine GE_cond rfl (fun hch => ?_) (fun hch => ?_) | refine GE_condNotB rfl (fun hch => ?_) (fun hch => ?_) | refine GE_condB rfl (fun hch => ?_) (fun hch => ?_)
              · skip
                refine GE_seq ?_
                refine GE_slots (L' := [(7, _)]) ⟨rfl, trivial⟩ ?_
                refine GE_plain (.st 0 (.st 1 (.st 2 .nil))) rfl ?_
                refine GT_st rfl rfl rfl rfl (V_move rfl rfl) ?_
                refine GT_st rfl rfl rfl rfl (V_assign rfl rfl) ?_
                refine GT_st rfl rfl rfl rfl (V_assign rfl rfl) ?_
                refine GT_nil ?_
                refine GE_ret Try.func63 ⟨_, _, rfl, rfl, rfl⟩ (fun w hw => ?_)
                first
                  | (have hg : greatest b l = some r3 := by
                       rw [← hgr, show l.length + 2 - s = (l.length + 1 - s) + 1 by omega, grounds, hsw, hch]; rfl
                     refine ⟨(A1, c1, I3), ?_, ?_, hw.chunk⟩
                     · rw [hg]; simpa [hr3] using hO3
                     · rw [hg]; simp [hr3])
                  | (have hg : greatest b l = none := by
                       rw [← hgr, show l.length + 2 - s = 0 by omega]; rfl
                     refine ⟨(none, 0, []), ?_, ?_, hw.nil⟩
                     · rw [hg]; exact Own.nil
                     · rw [hg]; rfl)
              · skip
                refine GE_skip ?_
                refine GE_inBlock ?_
                refine GE_plain (.st 0 (.st 1 (.ld 2 [] .nil))) rfl ?_
                refine GT_st rfl rfl rfl rfl (V_move rfl rfl) ?_
                refine GT_st rfl rfl rfl rfl (V_add rfl rfl rfl (wrap_i64 (by omega))) ?_
                refine GT_ldv rfl rfl rfl rfl rfl (V_assign rfl rfl) (GR_nil) ?_
                refine GT_nil ?_
                have e : l.length + 2 - s = (l.length + 2 - (s + 1)) + 1 := by omega
                rw [e, grounds, hsw, hch] at hgr
                simp only [if_true] at hgr
                exact GE_to (ih2 (s + 1, r3, I3) ⟨by dsimp only; omega, hr3, (fun q hq => by have := hbd3 q hq; dsimp only at this ⊢; omega), hO3, hgr⟩ (by dsimp only; omega)) ⟨rfl, rfl, rfl, rfl, rfl, trivial⟩ (HS.chunk (HS.cons rfl HS.nil))
          · refine ⟨Nat.zero_le _, hr, fun q hq => ?_, hO2, rfl⟩; have := hbd q hq; dsimp only at this ⊢; omega
        · skip
          refine GE_exit rfl ?_
          refine GE_seq ?_
          refine GE_slots (L' := []) trivial ?_
          refine GE_plain (.st 0 (.st 1 .nil)) rfl ?_
          refine GT_st rfl rfl rfl rfl (V_assign rfl rfl) ?_
          refine GT_st rfl rfl rfl rfl (V_assign rfl rfl) ?_
          refine GT_nil ?_
          refine GE_ret Try.func63 ⟨_, _, rfl, rfl, rfl⟩ (fun w hw => ?_)
          first
            | (have hg : greatest b l = some r3 := by
                 rw [← hgr, show l.length + 2 - s = (l.length + 1 - s) + 1 by omega, grounds, hsw, hch]; rfl
               refine ⟨(A1, c1, I3), ?_, ?_, hw.chunk⟩
               · rw [hg]; simpa [hr3] using hO3
               · rw [hg]; simp [hr3])
            | (have hg : greatest b l = none := by
                 rw [← hgr, show l.length + 2 - s = 0 by omega]; rfl
               refine ⟨(none, 0, []), ?_, ?_, hw.nil⟩
               · rw [hg]; exact Own.nil
               · rw [hg]; rfl)
      · refine ⟨Nat.zero_le _, start_length b l, fun q hq => ?_, hO, rfl⟩; have := hpt' q hq; simp only [start, List.getD, List.getElem?_map, List.getElem?_eq_getElem hq, Option.map_some, Option.getD_some] at this ⊢; omega
  · exact ⟨Nat.zero_le _, Own.nil⟩
end Go.Proofs.Ytacmnmcaeflflaa
