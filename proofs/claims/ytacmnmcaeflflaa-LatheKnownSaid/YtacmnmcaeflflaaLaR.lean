/- The reference's check of a proof, and LatheRefuses, walked. -/
import Derived.Test.YtacmnmcaeflflaaLaQ
namespace Go.Proofs.Ytacmnmcaeflflaa
open Go.Sx Go.Proofs

section
variable {b : Blank} {A A2 : Option Addr} {l : List Pt} {st : List Stp} {c c2 : Nat} {w : World}
theorem C_ref05_proves (hp : RdL w 2 ePt A l) (hs : RdL w 2 eStp A2 st) (hls : st.length ≤ 16384) (he : both b l = 0) :
    Con0 Try.prog 58 [b.val, .slice A l.length c, .slice A2 st.length c2] w (.bool (provesB b l st)) := by
  obtain ⟨hb, h3, h4⟩ := both_zero.1 he
  have hpb := ptB_of h4
  refine Ret_of (vs := [_, _, _]) hm none' Try.func58 rfl Try.ntmps58 rfl ?_
  dsimp only [slotsOf]
  refine GE_seq ?_
  refine GE_plain (.ld 0 [] (.st 1 .nil)) rfl ?_
  refine GT_box (z := [_, _, _, _, _, _]) rfl rfl rfl rfl rfl rfl rfl (fun _ => GR_nil) (fun b3 => ?_)
  refine GT_st rfl rfl rfl rfl (V_assign rfl rfl) ?_
  refine GT_nil ?_
  refine GE_seq ?_
  refine GE_plain (.st 0 .nil) rfl ?_
  refine GT_st rfl rfl rfl rfl (V_assign rfl rfl) ?_
  refine GT_nil ?_
  refine GE_seq ?_
  refine GE_plain (.st 0 (.st 1 .nil)) rfl ?_
  refine GT_st rfl rfl rfl rfl (V_assign rfl rfl) ?_
  refine GT_st rfl rfl rfl rfl (V_assign rfl rfl) ?_
  refine GT_nil ?_
  refine GE_seq ?_
  refine GE_seq ?_
  refine GE_plain (.st 0 .nil) rfl ?_
  refine GT_st rfl rfl rfl rfl (V_assign rfl rfl) ?_
  refine GT_nil ?_
  refine GE_block ?_
  refine GE_to (GE_loop (ι := Nat × Int × Int × Int) (fun x => st.length - x.1) (fun x => [(1, .slice A l.length c), (2, .slice A2 st.length c2), (3, ptr b3 0), (7, I x.2.2.1), (8, I x.2.1), (9, I x.2.2.2), (10, I x.1)]) (fun x => [(b3, blk b.cells 23)]) (fun x => x.1 ≤ st.length ∧ (x.1 = 0 → x.2.2.1 = 0) ∧ (x.1 ≠ 0 → pfold b l (st.take x.1) (frm0 b l st) = some (x.1, x.2.1, x.2.2.1) ∧ x.2.2.2 = frm0 b l st)) ?_ (0, 0, 0, 0) ?_) ⟨rfl, rfl, rfl, rfl, rfl, rfl, rfl, trivial⟩ (HS.cons rfl HS.nil)
  · rintro ⟨k, pl, sum, f0⟩ ⟨hk, hk0, hkn⟩ ih; dsimp only at hk hk0 hkn ih ⊢
    have hfo : ∃ pl', pfold b l (st.take k) (frm0 b l st) = some (k, pl', sum) ∧ (k ≠ 0 → pl' = pl ∧ f0 = frm0 b l st) := by
      by_cases h0 : k = 0
      · subst h0; rw [hk0 rfl]; exact ⟨frm0 b l st, rfl, fun h => absurd rfl h⟩
      · exact ⟨pl, (hkn h0).1, fun _ => ⟨rfl, (hkn h0).2⟩⟩
    obtain ⟨pl', hfo, hpl⟩ := hfo
    have hbd := pfold_bd hb hpb k hk _ _ _ hfo
    refine GE_seq ?_
    refine GE_seq ?_
    refine GE_plain (.st 0 (.st 1 (.st 2 (.st 3 .nil)))) rfl ?_
    refine GT_st rfl rfl rfl rfl (V_move rfl rfl) ?_
    refine GT_st rfl rfl rfl rfl (V_move rfl rfl) ?_
    refine GT_st rfl rfl rfl rfl (V_len rfl Try.underlying56 rfl) ?_
    refine GT_st rfl rfl rfl rfl (V_lss rfl rfl rfl) ?_
    refine GT_nil ?_
    first | refine GE_condNot rfl (fun h6 => ?_) (fun h6 => ?_) | refine GE_cond rfl (fun h6 => ?_) (fun h6 => ?_) | refine GE_condNotB rfl (fun h6 => ?_) (fun h6 => ?_) | refine GE_condB rfl (fun h6 => ?_) (fun h6 => ?_)
    · have hkl : k < st.length := (by omega)
      have hps : pfold b l (st.take (k + 1)) (frm0 b l st) = pst b l (some (k, pl', sum)) (st.getD k default) := (by rw [pfold_snoc hkl, hfo])
      have hno : pst b l (some (k, pl', sum)) (st.getD k default) = none → provesB b l st = false := (fun q => proves_none (pfold_bad hkl (by rw [hfo]; exact q)))
      refine GE_skip ?_
      refine GE_seq ?_
      refine GE_block ?_
      refine GE_seq ?_
      refine GE_slots (L' := [(1, _), (2, _), (3, _), (7, _), (8, _), (9, _), (10, _)]) ⟨rfl, rfl, rfl, rfl, rfl, rfl, rfl, trivial⟩ ?_
      refine GE_drawn (.st 0 (.st 1 (.st 2 (.st 3 (.st 4 (.st 5 (.ld 6 [2, 3, 4] (.st 7 (.st 8 (.st 9 (.st 10 (.st 11 (.st 12 (.st 13 (.st 14 (.st 15 .nil)))))))))))))))) [6] (by decide +kernel) ?_
      refine GT_st rfl rfl rfl rfl (V_loadN (vs := [_, _, _, _, _, _]) rfl rfl ag_23 sz_23 rfl (CellsAt.item rfl)) ?_
      refine GT_st rfl rfl rfl rfl (V_move rfl rfl) ?_
      refine GT_st rfl rfl rfl rfl (V_move rfl rfl) ?_
      refine GT_st rfl rfl rfl rfl (V_move rfl rfl) ?_
      refine GT_st rfl rfl rfl rfl (V_index rfl rfl rfl Try.underlying56 sz_62 (k := k) rfl hkl (hs.isSome hkl)) ?_
      refine GT_st rfl rfl rfl rfl (V_loadN (vs := [_, _]) rfl rfl ag_62 sz_62 rfl (hs.ats noM hkl)) ?_
      refine GT_call rfl rfl rfl rfl rfl rfl rfl rfl rn_69 (fun w hw => C_ref05_Weigh (hp.sh hw) hb hpb h3) (fun _ _ => GR_cons rfl rfl rfl rfl (V_move rfl rfl) (GR_cons rfl rfl rfl rfl (V_move rfl rfl) (GR_cons rfl rfl rfl rfl (V_index rfl rfl rfl Try.underlying56 sz_62 (k := k) rfl hkl (hs.isSome hkl)) (GR_nil)))) (fun x hx => ?_)
      refine GT_st rfl rfl rfl rfl (V_move rfl rfl) ?_
      refine GT_st rfl rfl rfl rfl (V_extract rfl rfl rfl) ?_
      refine GT_st rfl rfl rfl rfl (V_extract rfl rfl rfl) ?_
      refine GT_st rfl rfl rfl rfl (V_extract rfl rfl rfl) ?_
      refine GT_st rfl rfl rfl rfl (V_extract rfl rfl rfl) ?_
      refine GT_st rfl rfl rfl rfl (V_assign rfl rfl) ?_
      refine GT_st rfl rfl rfl rfl (V_assign rfl rfl) ?_
      refine GT_st rfl rfl rfl rfl (V_assign rfl rfl) ?_
      refine GT_st rfl rfl rfl rfl (V_assign rfl rfl) ?_
      refine GT_nil ?_
      refine GE_seq ?_
      refine GE_seq ?_
      refine GE_slots (L' := [(1, _), (2, _), (3, _), (7, _), (8, _), (9, _), (10, _), (11, _), (12, _), (13, _), (14, _)]) ⟨rfl, rfl, rfl, rfl, rfl, rfl, rfl, rfl, rfl, rfl, rfl, trivial⟩ ?_
      refine GE_plain (.st 0 (.st 1 (.st 2 (.st 3 (.st 4 (.st 5 (.st 6 (.st 7 (.st 8 (.st 9 (.st 10 (.st 11 (.st 12 (.st 13 (.st 14 .nil))))))))))))))) rfl ?_
      refine GT_st rfl rfl rfl rfl (V_move rfl rfl) ?_
      first | refine GT_st rfl rfl rfl rfl (V_not rfl rfl) ?_ | refine GT_st rfl rfl rfl rfl (V_notB rfl rfl) ?_
      refine GT_st rfl rfl rfl rfl (V_move rfl rfl) ?_
      first | refine GT_splitNot (d := 35) rfl (fun h7 => ?_) (fun h7 => ?_) | refine GT_split (d := 35) rfl (fun h7 => ?_) (fun h7 => ?_) | refine GT_splitNotB (d := 35) rfl (fun h7 => ?_) (fun h7 => ?_) | refine GT_splitB (d := 35) rfl (fun h7 => ?_) (fun h7 => ?_)
      · have hbad := hno (if_neg (fun q => by rw [h7] at q; cases q.1))
        refine GT_skip rfl rfl rfl rfl rfl (by decide) rfl rfl ?_
        refine GT_skip rfl rfl rfl rfl rfl (by decide) rfl rfl ?_
        refine GT_skip rfl rfl rfl rfl rfl (by decide) rfl rfl ?_
        refine GT_skip rfl rfl rfl rfl rfl (by decide) rfl rfl ?_
        refine GT_skip rfl rfl rfl rfl rfl (by decide) rfl rfl ?_
        refine GT_skip rfl rfl rfl rfl rfl (by decide) rfl rfl ?_
        refine GT_skip rfl rfl rfl rfl rfl (by decide) rfl rfl ?_
        refine GT_skip rfl rfl rfl rfl rfl (by decide) rfl rfl ?_
        refine GT_skip rfl rfl rfl rfl rfl (by decide) rfl rfl ?_
        refine GT_skip rfl rfl rfl rfl rfl (by decide) rfl rfl ?_
        refine GT_skip rfl rfl rfl rfl rfl (by decide) rfl rfl ?_
        refine GT_st rfl rfl rfl rfl (V_pick_t rfl rfl rfl) ?_
        refine GT_nil ?_
        refine GE_cond_t rfl ?_
        refine GE_seq ?_
        refine GE_slots (L' := []) trivial ?_
        refine GE_plain (.st 0 .nil) rfl ?_
        refine GT_st rfl rfl rfl rfl (V_assign rfl rfl) ?_
        refine GT_nil ?_
        refine GE_ret Try.func58 rfl (fun w hw => ⟨?_, hw.nil⟩)
        first | rw [hbad] | rw [hpr]
      · have hwt := edgeOf_wt hb hpb h7; have hx := hx h7; subst hx; dsimp only
        refine GT_st_g rfl rfl rfl rfl rfl rfl rfl (V_move rfl rfl) ?_
        refine GT_st_g rfl rfl rfl rfl rfl rfl rfl (V_gtr rfl rfl rfl) ?_
        refine GT_st_g rfl rfl rfl rfl rfl rfl rfl (V_move rfl rfl) ?_
        first | refine GT_splitNot (d := 38) rfl (fun h8 => ?_) (fun h8 => ?_) | refine GT_split (d := 38) rfl (fun h8 => ?_) (fun h8 => ?_) | refine GT_splitNotB (d := 38) rfl (fun h8 => ?_) (fun h8 => ?_) | refine GT_splitB (d := 38) rfl (fun h8 => ?_) (fun h8 => ?_)
        · have hpl2 := hpl (by omega)
          refine GT_st_g rfl rfl rfl rfl rfl rfl rfl (V_move rfl rfl) ?_
          refine GT_st_g rfl rfl rfl rfl rfl rfl rfl (V_move rfl rfl) ?_
          refine GT_st_g rfl rfl rfl rfl rfl rfl rfl (V_neq rfl rfl rfl) ?_
          refine GT_st_g rfl rfl rfl rfl rfl rfl rfl (V_move rfl rfl) ?_
          first | refine GT_splitNot (d := 42) rfl (fun h9 => ?_) (fun h9 => ?_) | refine GT_split (d := 42) rfl (fun h9 => ?_) (fun h9 => ?_) | refine GT_splitNotB (d := 42) rfl (fun h9 => ?_) (fun h9 => ?_) | refine GT_splitB (d := 42) rfl (fun h9 => ?_) (fun h9 => ?_)
          · have hbad := hno (if_neg (fun q => by rcases q.2 with q | q; omega; exact h9 (by rw [q.1]; exact hpl2.1)))
            refine GT_skip rfl rfl rfl rfl rfl (by decide) rfl rfl ?_
            refine GT_skip rfl rfl rfl rfl rfl (by decide) rfl rfl ?_
            refine GT_st_g rfl rfl rfl rfl rfl rfl rfl (V_pick_t rfl rfl rfl) ?_
            refine GT_st_g rfl rfl rfl rfl rfl rfl rfl (V_pick_t rfl rfl rfl) ?_
            refine GT_st rfl rfl rfl rfl (V_pick_f rfl rfl rfl) ?_
            refine GT_nil ?_
            refine GE_cond_t rfl ?_
            refine GE_seq ?_
            refine GE_slots (L' := []) trivial ?_
            refine GE_plain (.st 0 .nil) rfl ?_
            refine GT_st rfl rfl rfl rfl (V_assign rfl rfl) ?_
            refine GT_nil ?_
            refine GE_ret Try.func58 rfl (fun w hw => ⟨?_, hw.nil⟩)
            first | rw [hbad] | rw [hpr]
          · skip
            refine GT_st_g rfl rfl rfl rfl rfl rfl rfl (V_move rfl rfl) ?_
            refine GT_st_g rfl rfl rfl rfl rfl rfl rfl (V_eql rfl rfl rfl) ?_
            refine GT_st_g rfl rfl rfl rfl rfl rfl rfl (V_pick_f rfl rfl rfl) ?_
            refine GT_st_g rfl rfl rfl rfl rfl rfl rfl (V_pick_t rfl rfl rfl) ?_
            refine GT_st rfl rfl rfl rfl (V_pick_f rfl rfl rfl) ?_
            refine GT_nil ?_
            first | refine GE_condNot rfl (fun h10 => ?_) (fun h10 => ?_) | refine GE_cond rfl (fun h10 => ?_) (fun h10 => ?_) | refine GE_condNotB rfl (fun h10 => ?_) (fun h10 => ?_) | refine GE_condB rfl (fun h10 => ?_) (fun h10 => ?_)
            · have hbad := hno (if_neg (fun q => by rcases q.2 with q | q; omega; exact q.2 h10))
              refine GE_seq ?_
              refine GE_slots (L' := []) trivial ?_
              refine GE_plain (.st 0 .nil) rfl ?_
              refine GT_st rfl rfl rfl rfl (V_assign rfl rfl) ?_
              refine GT_nil ?_
              refine GE_ret Try.func58 rfl (fun w hw => ⟨?_, hw.nil⟩)
              first | rw [hbad] | rw [hpr]
            · have hok := hps.trans (if_pos ⟨h7, .inr ⟨by rw [hpl2.1]; exact h9, h10⟩⟩)
              refine GE_skip ?_
              refine GE_seq ?_
              refine GE_seq ?_
              refine GE_slots (L' := [(1, _), (2, _), (3, _), (7, _), (9, _), (10, _), (11, _), (12, _), (13, _), (36, _), (37, _), (38, _), (39, _), (40, _), (41, _), (42, _), (43, _), (44, _), (45, _), (46, _)]) ⟨rfl, rfl, rfl, rfl, rfl, rfl, rfl, rfl, rfl, rfl, rfl, rfl, rfl, rfl, rfl, rfl, rfl, rfl, rfl, rfl, trivial⟩ ?_
              refine GE_plain (.st 0 (.st 1 .nil)) rfl ?_
              refine GT_st rfl rfl rfl rfl (V_move rfl rfl) ?_
              refine GT_st rfl rfl rfl rfl (V_eql rfl rfl rfl) ?_
              refine GT_nil ?_
              first | refine GE_condNot rfl (fun h11 => ?_) (fun h11 => ?_) | refine GE_cond rfl (fun h11 => ?_) (fun h11 => ?_) | refine GE_condNotB rfl (fun h11 => ?_) (fun h11 => ?_) | refine GE_condB rfl (fun h11 => ?_) (fun h11 => ?_)
              · skip
                refine GE_plain (.st 0 (.st 1 .nil)) rfl ?_
                refine GT_st rfl rfl rfl rfl (V_move rfl rfl) ?_
                refine GT_st rfl rfl rfl rfl (V_assign rfl rfl) ?_
                refine GT_nil ?_
                refine GE_seq ?_
                refine GE_slots (L' := [(1, _), (2, _), (3, _), (7, _), (9, _), (10, _), (12, _), (13, _), (36, _), (37, _), (38, _), (39, _), (40, _), (41, _), (42, _), (43, _), (44, _), (45, _), (46, _)]) ⟨rfl, rfl, rfl, rfl, rfl, rfl, rfl, rfl, rfl, rfl, rfl, rfl, rfl, rfl, rfl, rfl, rfl, rfl, rfl, trivial⟩ ?_
                refine GE_plain (.st 0 (.st 1 (.st 2 (.ld 3 [] .nil)))) rfl ?_
                refine GT_st rfl rfl rfl rfl (V_move rfl rfl) ?_
                refine GT_st rfl rfl rfl rfl (V_move rfl rfl) ?_
                refine GT_st rfl rfl rfl rfl (V_add rfl rfl rfl (wrap_i64 (by omega))) ?_
                refine GT_ldv rfl rfl rfl rfl rfl (V_assign rfl rfl) (GR_nil) ?_
                refine GT_nil ?_
                refine GE_slots (L' := [(1, _), (2, _), (3, _), (7, _), (9, _), (10, _), (12, _), (36, _), (37, _), (38, _), (39, _), (40, _), (41, _), (42, _), (43, _), (44, _), (45, _), (46, _)]) ⟨rfl, rfl, rfl, rfl, rfl, rfl, rfl, rfl, rfl, rfl, rfl, rfl, rfl, rfl, rfl, rfl, rfl, rfl, trivial⟩ ?_
                refine GE_plain (.st 0 (.st 1 .nil)) rfl ?_
                refine GT_st rfl rfl rfl rfl (V_move rfl rfl) ?_
                refine GT_st rfl rfl rfl rfl (V_assign rfl rfl) ?_
                refine GT_nil ?_
                refine GE_inBlock ?_
                refine GE_plain (.st 0 (.st 1 (.ld 2 [] .nil))) rfl ?_
                refine GT_st rfl rfl rfl rfl (V_move rfl rfl) ?_
                refine GT_st rfl rfl rfl rfl (V_add rfl rfl rfl (wrap_i64 (by omega))) ?_
                refine GT_ldv rfl rfl rfl rfl rfl (V_assign rfl rfl) (GR_nil) ?_
                refine GT_nil ?_
                first
                  | exact GE_to (ih (k + 1, (edgeOf b l (st.getD k default).rule (st.getD k default).samp).1.to, sum + (edgeOf b l (st.getD k default).rule (st.getD k default).samp).1.wt, (edgeOf b l (st.getD k default).rule (st.getD k default).samp).1.frm) ⟨by dsimp only; omega, (fun q => by cases q), fun _ => ⟨hok, hf0⟩⟩ (by dsimp only; omega)) ⟨rfl, rfl, rfl, rfl, rfl, rfl, rfl, trivial⟩ (HS.cons rfl HS.nil)
                  | exact GE_to (ih (k + 1, (edgeOf b l (st.getD k default).rule (st.getD k default).samp).1.to, sum + (edgeOf b l (st.getD k default).rule (st.getD k default).samp).1.wt, f0) ⟨by dsimp only; omega, (fun q => by cases q), fun _ => ⟨hok, (hpl (by omega)).2⟩⟩ (by dsimp only; omega)) ⟨rfl, rfl, rfl, rfl, rfl, rfl, rfl, trivial⟩ (HS.cons rfl HS.nil)
                  | (exfalso; omega)
              · skip
                refine GE_skip ?_
                refine GE_seq ?_
                refine GE_plain (.st 0 (.st 1 (.st 2 (.ld 3 [] .nil)))) rfl ?_
                refine GT_st rfl rfl rfl rfl (V_move rfl rfl) ?_
                refine GT_st rfl rfl rfl rfl (V_move rfl rfl) ?_
                refine GT_st rfl rfl rfl rfl (V_add rfl rfl rfl (wrap_i64 (by omega))) ?_
                refine GT_ldv rfl rfl rfl rfl rfl (V_assign rfl rfl) (GR_nil) ?_
                refine GT_nil ?_
                refine GE_slots (L' := [(1, _), (2, _), (3, _), (7, _), (9, _), (10, _), (12, _), (36, _), (37, _), (38, _), (39, _), (40, _), (41, _), (42, _), (43, _), (44, _), (45, _), (46, _)]) ⟨rfl, rfl, rfl, rfl, rfl, rfl, rfl, rfl, rfl, rfl, rfl, rfl, rfl, rfl, rfl, rfl, rfl, rfl, trivial⟩ ?_
                refine GE_plain (.st 0 (.st 1 .nil)) rfl ?_
                refine GT_st rfl rfl rfl rfl (V_move rfl rfl) ?_
                refine GT_st rfl rfl rfl rfl (V_assign rfl rfl) ?_
                refine GT_nil ?_
                refine GE_inBlock ?_
                refine GE_plain (.st 0 (.st 1 (.ld 2 [] .nil))) rfl ?_
                refine GT_st rfl rfl rfl rfl (V_move rfl rfl) ?_
                refine GT_st rfl rfl rfl rfl (V_add rfl rfl rfl (wrap_i64 (by omega))) ?_
                refine GT_ldv rfl rfl rfl rfl rfl (V_assign rfl rfl) (GR_nil) ?_
                refine GT_nil ?_
                first
                  | exact GE_to (ih (k + 1, (edgeOf b l (st.getD k default).rule (st.getD k default).samp).1.to, sum + (edgeOf b l (st.getD k default).rule (st.getD k default).samp).1.wt, (edgeOf b l (st.getD k default).rule (st.getD k default).samp).1.frm) ⟨by dsimp only; omega, (fun q => by cases q), fun _ => ⟨hok, hf0⟩⟩ (by dsimp only; omega)) ⟨rfl, rfl, rfl, rfl, rfl, rfl, rfl, trivial⟩ (HS.cons rfl HS.nil)
                  | exact GE_to (ih (k + 1, (edgeOf b l (st.getD k default).rule (st.getD k default).samp).1.to, sum + (edgeOf b l (st.getD k default).rule (st.getD k default).samp).1.wt, f0) ⟨by dsimp only; omega, (fun q => by cases q), fun _ => ⟨hok, (hpl (by omega)).2⟩⟩ (by dsimp only; omega)) ⟨rfl, rfl, rfl, rfl, rfl, rfl, rfl, trivial⟩ (HS.cons rfl HS.nil)
                  | (exfalso; omega)
        · have hok := hps.trans (if_pos ⟨h7, .inl (by omega)⟩); have hf0 : (edgeOf b l (st.getD k default).rule (st.getD k default).samp).1.frm = frm0 b l st := (by rw [show k = 0 by omega]; rfl)
          refine GT_skip rfl rfl rfl rfl rfl (by decide) rfl rfl ?_
          refine GT_skip rfl rfl rfl rfl rfl (by decide) rfl rfl ?_
          refine GT_skip rfl rfl rfl rfl rfl (by decide) rfl rfl ?_
          refine GT_skip rfl rfl rfl rfl rfl (by decide) rfl rfl ?_
          refine GT_skip rfl rfl rfl rfl rfl (by decide) rfl rfl ?_
          refine GT_skip rfl rfl rfl rfl rfl (by decide) rfl rfl ?_
          refine GT_skip rfl rfl rfl rfl rfl (by decide) rfl rfl ?_
          refine GT_st_g rfl rfl rfl rfl rfl rfl rfl (V_pick_f rfl rfl rfl) ?_
          refine GT_st rfl rfl rfl rfl (V_pick_f rfl rfl rfl) ?_
          refine GT_nil ?_
          refine GE_cond_f rfl ?_
          refine GE_skip ?_
          refine GE_seq ?_
          refine GE_seq ?_
          refine GE_slots (L' := [(1, _), (2, _), (3, _), (7, _), (9, _), (10, _), (11, _), (12, _), (13, _), (36, _), (37, _), (38, _), (39, _), (40, _), (41, _), (42, _), (43, _), (44, _), (45, _), (46, _)]) ⟨rfl, rfl, rfl, rfl, rfl, rfl, rfl, rfl, rfl, rfl, rfl, rfl, rfl, rfl, rfl, rfl, rfl, rfl, rfl, rfl, trivial⟩ ?_
          refine GE_plain (.st 0 (.st 1 .nil)) rfl ?_
          refine GT_st rfl rfl rfl rfl (V_move rfl rfl) ?_
          refine GT_st rfl rfl rfl rfl (V_eql rfl rfl rfl) ?_
          refine GT_nil ?_
          first | refine GE_condNot rfl (fun h11 => ?_) (fun h11 => ?_) | refine GE_cond rfl (fun h11 => ?_) (fun h11 => ?_) | refine GE_condNotB rfl (fun h11 => ?_) (fun h11 => ?_) | refine GE_condB rfl (fun h11 => ?_) (fun h11 => ?_)
          · skip
            refine GE_plain (.st 0 (.st 1 .nil)) rfl ?_
            refine GT_st rfl rfl rfl rfl (V_move rfl rfl) ?_
            refine GT_st rfl rfl rfl rfl (V_assign rfl rfl) ?_
            refine GT_nil ?_
            refine GE_seq ?_
            refine GE_slots (L' := [(1, _), (2, _), (3, _), (7, _), (9, _), (10, _), (12, _), (13, _), (36, _), (37, _), (38, _), (39, _), (40, _), (41, _), (42, _), (43, _), (44, _), (45, _), (46, _)]) ⟨rfl, rfl, rfl, rfl, rfl, rfl, rfl, rfl, rfl, rfl, rfl, rfl, rfl, rfl, rfl, rfl, rfl, rfl, rfl, trivial⟩ ?_
            refine GE_plain (.st 0 (.st 1 (.st 2 (.ld 3 [] .nil)))) rfl ?_
            refine GT_st rfl rfl rfl rfl (V_move rfl rfl) ?_
            refine GT_st rfl rfl rfl rfl (V_move rfl rfl) ?_
            refine GT_st rfl rfl rfl rfl (V_add rfl rfl rfl (wrap_i64 (by omega))) ?_
            refine GT_ldv rfl rfl rfl rfl rfl (V_assign rfl rfl) (GR_nil) ?_
            refine GT_nil ?_
            refine GE_slots (L' := [(1, _), (2, _), (3, _), (7, _), (9, _), (10, _), (12, _), (36, _), (37, _), (38, _), (39, _), (40, _), (41, _), (42, _), (43, _), (44, _), (45, _), (46, _)]) ⟨rfl, rfl, rfl, rfl, rfl, rfl, rfl, rfl, rfl, rfl, rfl, rfl, rfl, rfl, rfl, rfl, rfl, rfl, trivial⟩ ?_
            refine GE_plain (.st 0 (.st 1 .nil)) rfl ?_
            refine GT_st rfl rfl rfl rfl (V_move rfl rfl) ?_
            refine GT_st rfl rfl rfl rfl (V_assign rfl rfl) ?_
            refine GT_nil ?_
            refine GE_inBlock ?_
            refine GE_plain (.st 0 (.st 1 (.ld 2 [] .nil))) rfl ?_
            refine GT_st rfl rfl rfl rfl (V_move rfl rfl) ?_
            refine GT_st rfl rfl rfl rfl (V_add rfl rfl rfl (wrap_i64 (by omega))) ?_
            refine GT_ldv rfl rfl rfl rfl rfl (V_assign rfl rfl) (GR_nil) ?_
            refine GT_nil ?_
            first
              | exact GE_to (ih (k + 1, (edgeOf b l (st.getD k default).rule (st.getD k default).samp).1.to, sum + (edgeOf b l (st.getD k default).rule (st.getD k default).samp).1.wt, (edgeOf b l (st.getD k default).rule (st.getD k default).samp).1.frm) ⟨by dsimp only; omega, (fun q => by cases q), fun _ => ⟨hok, hf0⟩⟩ (by dsimp only; omega)) ⟨rfl, rfl, rfl, rfl, rfl, rfl, rfl, trivial⟩ (HS.cons rfl HS.nil)
              | exact GE_to (ih (k + 1, (edgeOf b l (st.getD k default).rule (st.getD k default).samp).1.to, sum + (edgeOf b l (st.getD k default).rule (st.getD k default).samp).1.wt, f0) ⟨by dsimp only; omega, (fun q => by cases q), fun _ => ⟨hok, (hpl (by omega)).2⟩⟩ (by dsimp only; omega)) ⟨rfl, rfl, rfl, rfl, rfl, rfl, rfl, trivial⟩ (HS.cons rfl HS.nil)
              | (exfalso; omega)
          · skip
            refine GE_skip ?_
            refine GE_seq ?_
            refine GE_plain (.st 0 (.st 1 (.st 2 (.ld 3 [] .nil)))) rfl ?_
            refine GT_st rfl rfl rfl rfl (V_move rfl rfl) ?_
            refine GT_st rfl rfl rfl rfl (V_move rfl rfl) ?_
            refine GT_st rfl rfl rfl rfl (V_add rfl rfl rfl (wrap_i64 (by omega))) ?_
            refine GT_ldv rfl rfl rfl rfl rfl (V_assign rfl rfl) (GR_nil) ?_
            refine GT_nil ?_
            refine GE_slots (L' := [(1, _), (2, _), (3, _), (7, _), (9, _), (10, _), (12, _), (36, _), (37, _), (38, _), (39, _), (40, _), (41, _), (42, _), (43, _), (44, _), (45, _), (46, _)]) ⟨rfl, rfl, rfl, rfl, rfl, rfl, rfl, rfl, rfl, rfl, rfl, rfl, rfl, rfl, rfl, rfl, rfl, rfl, trivial⟩ ?_
            refine GE_plain (.st 0 (.st 1 .nil)) rfl ?_
            refine GT_st rfl rfl rfl rfl (V_move rfl rfl) ?_
            refine GT_st rfl rfl rfl rfl (V_assign rfl rfl) ?_
            refine GT_nil ?_
            refine GE_inBlock ?_
            refine GE_plain (.st 0 (.st 1 (.ld 2 [] .nil))) rfl ?_
            refine GT_st rfl rfl rfl rfl (V_move rfl rfl) ?_
            refine GT_st rfl rfl rfl rfl (V_add rfl rfl rfl (wrap_i64 (by omega))) ?_
            refine GT_ldv rfl rfl rfl rfl rfl (V_assign rfl rfl) (GR_nil) ?_
            refine GT_nil ?_
            first
              | exact GE_to (ih (k + 1, (edgeOf b l (st.getD k default).rule (st.getD k default).samp).1.to, sum + (edgeOf b l (st.getD k default).rule (st.getD k default).samp).1.wt, (edgeOf b l (st.getD k default).rule (st.getD k default).samp).1.frm) ⟨by dsimp only; omega, (fun q => by cases q), fun _ => ⟨hok, hf0⟩⟩ (by dsimp only; omega)) ⟨rfl, rfl, rfl, rfl, rfl, rfl, rfl, trivial⟩ (HS.cons rfl HS.nil)
              | exact GE_to (ih (k + 1, (edgeOf b l (st.getD k default).rule (st.getD k default).samp).1.to, sum + (edgeOf b l (st.getD k default).rule (st.getD k default).samp).1.wt, f0) ⟨by dsimp only; omega, (fun q => by cases q), fun _ => ⟨hok, (hpl (by omega)).2⟩⟩ (by dsimp only; omega)) ⟨rfl, rfl, rfl, rfl, rfl, rfl, rfl, trivial⟩ (HS.cons rfl HS.nil)
              | (exfalso; omega)
    · obtain rfl : k = st.length := (by omega); rw [List.take_length] at hfo
      refine GE_exit rfl ?_
      refine GE_seq ?_
      refine GE_slots (L' := [(2, _), (7, _), (8, _), (9, _)]) ⟨rfl, rfl, rfl, rfl, trivial⟩ ?_
      refine GE_plain (.st 0 (.st 1 (.st 2 (.st 3 (.st 4 (.st 5 (.st 6 (.st 7 (.st 8 (.st 9 (.st 10 (.st 11 (.st 12 .nil))))))))))))) rfl ?_
      refine GT_st rfl rfl rfl rfl (V_move rfl rfl) ?_
      refine GT_st rfl rfl rfl rfl (V_len rfl Try.underlying56 rfl) ?_
      refine GT_st rfl rfl rfl rfl (V_gtr rfl rfl rfl) ?_
      refine GT_st rfl rfl rfl rfl (V_move rfl rfl) ?_
      first | refine GT_splitNot (d := 58) rfl (fun h12 => ?_) (fun h12 => ?_) | refine GT_split (d := 58) rfl (fun h12 => ?_) (fun h12 => ?_) | refine GT_splitNotB (d := 58) rfl (fun h12 => ?_) (fun h12 => ?_) | refine GT_splitB (d := 58) rfl (fun h12 => ?_) (fun h12 => ?_)
      · have hne : st ≠ [] := (fun q => by rw [q] at h12; simp at h12); have hkz : st.length ≠ 0 := (by omega); obtain ⟨e1, e2⟩ := hpl hkz; have hpr := proves_some hne hfo; rw [e1] at hpr; subst e2
        refine GT_st_g rfl rfl rfl rfl rfl rfl rfl (V_move rfl rfl) ?_
        refine GT_st_g rfl rfl rfl rfl rfl rfl rfl (V_move rfl rfl) ?_
        refine GT_st_g rfl rfl rfl rfl rfl rfl rfl (V_eql rfl rfl rfl) ?_
        refine GT_st rfl rfl rfl rfl (V_pick_t rfl rfl rfl) ?_
        refine GT_st rfl rfl rfl rfl (V_move rfl rfl) ?_
        first | refine GT_splitNot (d := 63) rfl (fun h13 => ?_) (fun h13 => ?_) | refine GT_split (d := 63) rfl (fun h13 => ?_) (fun h13 => ?_) | refine GT_splitNotB (d := 63) rfl (fun h13 => ?_) (fun h13 => ?_) | refine GT_splitB (d := 63) rfl (fun h13 => ?_) (fun h13 => ?_)
        · rw [decide_eq_true h13.symm, Bool.true_and] at hpr
          refine GT_st_g rfl rfl rfl rfl rfl rfl rfl (V_move rfl rfl) ?_
          refine GT_st_g rfl rfl rfl rfl rfl rfl rfl (V_lss rfl rfl rfl) ?_
          refine GT_st rfl rfl rfl rfl (V_pick_t rfl rfl rfl) ?_
          refine GT_st rfl rfl rfl rfl (V_assign rfl rfl) ?_
          refine GT_nil ?_
          refine GE_ret Try.func58 rfl (fun w hw => ⟨?_, hw.nil⟩)
          first | rw [hbad] | rw [hpr]
        · have hbad : provesB b l st = false := (by rw [hpr, decide_eq_false (fun q => h13 q.symm)]; rfl)
          refine GT_skip rfl rfl rfl rfl rfl (by decide) rfl rfl ?_
          refine GT_skip rfl rfl rfl rfl rfl (by decide) rfl rfl ?_
          refine GT_st rfl rfl rfl rfl (V_pick_f rfl rfl rfl) ?_
          refine GT_st rfl rfl rfl rfl (V_assign rfl rfl) ?_
          refine GT_nil ?_
          refine GE_ret Try.func58 rfl (fun w hw => ⟨?_, hw.nil⟩)
          first | rw [hbad] | rw [hpr]
      · have hbad : provesB b l st = false := (by rw [List.eq_nil_of_length_eq_zero (show st.length = 0 by omega)]; rfl)
        refine GT_skip rfl rfl rfl rfl rfl (by decide) rfl rfl ?_
        refine GT_skip rfl rfl rfl rfl rfl (by decide) rfl rfl ?_
        refine GT_skip rfl rfl rfl rfl rfl (by decide) rfl rfl ?_
        refine GT_st rfl rfl rfl rfl (V_pick_f rfl rfl rfl) ?_
        refine GT_st rfl rfl rfl rfl (V_move rfl rfl) ?_
        refine GT_skip rfl rfl rfl rfl rfl (by decide) rfl rfl ?_
        refine GT_skip rfl rfl rfl rfl rfl (by decide) rfl rfl ?_
        refine GT_st rfl rfl rfl rfl (V_pick_f rfl rfl rfl) ?_
        refine GT_st rfl rfl rfl rfl (V_assign rfl rfl) ?_
        refine GT_nil ?_
        refine GE_ret Try.func58 rfl (fun w hw => ⟨?_, hw.nil⟩)
        first | rw [hbad] | rw [hpr]
  · exact ⟨Nat.zero_le _, fun _ => rfl, fun h => absurd rfl h⟩
theorem C_ref05_CheckRefusal (hp : RdL w 2 ePt A l) (hs : RdL w 2 eStp A2 st) (hls : st.length ≤ 1099511627776) :
    Con0 Try.prog 36 [b.val, .slice A l.length c, .slice A2 st.length c2] w (I (refE b l st)) := by
  by_cases he : both b l = 0
  · have hE : refE b l st = if 16384 < st.length then 6 else if provesB b l st then 0 else 16 := if_pos he
    refine Ret_of (vs := [_, _, _]) hm none' Try.func36 rfl Try.ntmps36 rfl ?_
    dsimp only [slotsOf]
    refine GE_seq ?_
    refine GE_plain (.ld 0 [] (.st 1 .nil)) rfl ?_
    refine GT_box (z := [_, _, _, _, _, _]) rfl rfl rfl rfl rfl rfl rfl (fun _ => GR_nil) (fun b3 => ?_)
    refine GT_st rfl rfl rfl rfl (V_assign rfl rfl) ?_
    refine GT_nil ?_
    refine GE_seq ?_
    refine GE_seq ?_
    refine GE_plain (.st 0 (.st 1 (.ld 2 [] (.st 3 .nil)))) rfl ?_
    refine GT_st rfl rfl rfl rfl (V_loadN (vs := [_, _, _, _, _, _]) rfl rfl ag_23 sz_23 rfl (CellsAt.item rfl)) ?_
    refine GT_st rfl rfl rfl rfl (V_move rfl rfl) ?_
    refine GT_call0 rfl rfl rfl rfl rfl rfl rfl rfl rn_40 (fun w hw => C_ref05_both (hp.sh hw)) (GR_nil) ?_
    refine GT_st rfl rfl rfl rfl (V_neq rfl rfl rfl) ?_
    refine GT_nil ?_
    first | refine GE_condNot rfl (fun h1 => ?_) (fun h1 => ?_) | refine GE_cond rfl (fun h1 => ?_) (fun h1 => ?_) | refine GE_condNotB rfl (fun h1 => ?_) (fun h1 => ?_) | refine GE_condB rfl (fun h1 => ?_) (fun h1 => ?_)
    · exact absurd he h1
    · skip
      refine GE_skip ?_
      refine GE_seq ?_
      refine GE_seq ?_
      refine GE_slots (L' := [(1, _), (2, _), (3, _)]) ⟨rfl, rfl, rfl, trivial⟩ ?_
      refine GE_plain (.st 0 (.st 1 (.st 2 .nil))) rfl ?_
      refine GT_st rfl rfl rfl rfl (V_move rfl rfl) ?_
      refine GT_st rfl rfl rfl rfl (V_len rfl Try.underlying56 rfl) ?_
      refine GT_st rfl rfl rfl rfl (V_gtr rfl rfl rfl) ?_
      refine GT_nil ?_
      first | refine GE_condNot rfl (fun h2 => ?_) (fun h2 => ?_) | refine GE_cond rfl (fun h2 => ?_) (fun h2 => ?_) | refine GE_condNotB rfl (fun h2 => ?_) (fun h2 => ?_) | refine GE_condB rfl (fun h2 => ?_) (fun h2 => ?_)
      · skip
        refine GE_seq ?_
        refine GE_slots (L' := []) trivial ?_
        refine GE_plain (.st 0 .nil) rfl ?_
        refine GT_st rfl rfl rfl rfl (V_assign rfl rfl) ?_
        refine GT_nil ?_
        refine GE_ret Try.func36 rfl (fun w hw => ⟨?_, hw.nil⟩)
        rw [hE, if_pos (by omega)]
      · skip
        refine GE_skip ?_
        refine GE_seq ?_
        refine GE_seq ?_
        refine GE_plain (.st 0 (.st 1 (.st 2 (.ld 3 [] (.st 4 .nil))))) rfl ?_
        refine GT_st rfl rfl rfl rfl (V_loadN (vs := [_, _, _, _, _, _]) rfl rfl ag_23 sz_23 rfl (CellsAt.item rfl)) ?_
        refine GT_st rfl rfl rfl rfl (V_move rfl rfl) ?_
        refine GT_st rfl rfl rfl rfl (V_move rfl rfl) ?_
        refine GT_call0 rfl rfl rfl rfl rfl rfl rfl rfl rn_58 (fun w hw => C_ref05_proves (hp.sh hw) (hs.sh hw) (by omega) he) (GR_nil) ?_
        first | refine GT_st rfl rfl rfl rfl (V_not rfl rfl) ?_ | refine GT_st rfl rfl rfl rfl (V_notB rfl rfl) ?_
        refine GT_nil ?_
        first | refine GE_condNot rfl (fun h3 => ?_) (fun h3 => ?_) | refine GE_cond rfl (fun h3 => ?_) (fun h3 => ?_) | refine GE_condNotB rfl (fun h3 => ?_) (fun h3 => ?_) | refine GE_condB rfl (fun h3 => ?_) (fun h3 => ?_)
        · skip
          refine GE_seq ?_
          refine GE_slots (L' := []) trivial ?_
          refine GE_plain (.st 0 .nil) rfl ?_
          refine GT_st rfl rfl rfl rfl (V_assign rfl rfl) ?_
          refine GT_nil ?_
          refine GE_ret Try.func36 rfl (fun w hw => ⟨?_, hw.nil⟩)
          rw [hE, if_neg (by omega), h3]; rfl
        · skip
          refine GE_skip ?_
          refine GE_seq ?_
          refine GE_slots (L' := []) trivial ?_
          refine GE_plain (.st 0 .nil) rfl ?_
          refine GT_st rfl rfl rfl rfl (V_assign rfl rfl) ?_
          refine GT_nil ?_
          refine GE_ret Try.func36 rfl (fun w hw => ⟨?_, hw.nil⟩)
          rw [hE, if_neg (by omega), h3]; rfl
  · have hE : refE b l st = both b l := if_neg he
    refine Ret_of (vs := [_, _, _]) hm none' Try.func36 rfl Try.ntmps36 rfl ?_
    dsimp only [slotsOf]
    refine GE_seq ?_
    refine GE_plain (.ld 0 [] (.st 1 .nil)) rfl ?_
    refine GT_box (z := [_, _, _, _, _, _]) rfl rfl rfl rfl rfl rfl rfl (fun _ => GR_nil) (fun b3 => ?_)
    refine GT_st rfl rfl rfl rfl (V_assign rfl rfl) ?_
    refine GT_nil ?_
    refine GE_seq ?_
    refine GE_seq ?_
    refine GE_plain (.st 0 (.st 1 (.ld 2 [] (.st 3 .nil)))) rfl ?_
    refine GT_st rfl rfl rfl rfl (V_loadN (vs := [_, _, _, _, _, _]) rfl rfl ag_23 sz_23 rfl (CellsAt.item rfl)) ?_
    refine GT_st rfl rfl rfl rfl (V_move rfl rfl) ?_
    refine GT_call0 rfl rfl rfl rfl rfl rfl rfl rfl rn_40 (fun w hw => C_ref05_both (hp.sh hw)) (GR_nil) ?_
    refine GT_st rfl rfl rfl rfl (V_neq rfl rfl rfl) ?_
    refine GT_nil ?_
    first | refine GE_condNot rfl (fun h1 => ?_) (fun h1 => ?_) | refine GE_cond rfl (fun h1 => ?_) (fun h1 => ?_) | refine GE_condNotB rfl (fun h1 => ?_) (fun h1 => ?_) | refine GE_condB rfl (fun h1 => ?_) (fun h1 => ?_)
    · skip
      refine GE_seq ?_
      refine GE_slots (L' := [(1, _), (3, _)]) ⟨rfl, rfl, trivial⟩ ?_
      refine GE_plain (.st 0 (.st 1 (.ld 2 [] (.st 3 .nil)))) rfl ?_
      refine GT_st rfl rfl rfl rfl (V_loadN (vs := [_, _, _, _, _, _]) rfl rfl ag_23 sz_23 rfl (CellsAt.item rfl)) ?_
      refine GT_st rfl rfl rfl rfl (V_move rfl rfl) ?_
      refine GT_call0 rfl rfl rfl rfl rfl rfl rfl rfl rn_40 (fun w hw => C_ref05_both (hp.sh hw)) (GR_nil) ?_
      refine GT_st rfl rfl rfl rfl (V_assign rfl rfl) ?_
      refine GT_nil ?_
      refine GE_ret Try.func36 rfl (fun w hw => ⟨?_, hw.nil⟩)
      rw [hE]
    · exact absurd h1 he
theorem refuse_code {b : Blank} {l : List Pt} : refuseE b l = if outE b l = 0 then 5 else if outE b l = 15 then 0 else outE b l := by
  unfold refuseE outE
  by_cases he : both b l = 0
  · rw [if_pos he, if_pos he]
    cases outer b l <;> rfl
  · rw [if_neg he, if_neg he, if_neg he, if_neg]
    unfold both ptsCheck; (repeat' split) <;> decide
end
end Go.Proofs.Ytacmnmcaeflflaa
