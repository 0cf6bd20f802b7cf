/- The outermost cut of the lathe and of the reference, walked. -/
import Derived.Test.YtacmnmcaeflflaaLaX
namespace Go.Proofs.Ytacmnmcaeflflaa
open Go.Sx Go.Proofs

theorem SideAt.of {w0 w : World} {M : Nat → Prop} {H : Items} {bs c : Nat} {b : Blank} {A : Option Addr} {l : List Pt} (m : SH w0 M H w) [h : HFind bs H (blk (sideCells b A l c) 92)] : SideAt w bs b A l c := (m.item _ h.mem).2

theorem C_ref03_CheckPoints {A : Option Addr} {l : List Pt} {c : Nat} {w : World} (hp : RdL w 2 ePt A l) : Con0 Try.prog 51 [.slice A l.length c] w (I (ptsCheck l)) := by
  refine Ret_of (vs := [_]) hm none' Try.func51 rfl Try.ntmps51 rfl ?_
  dsimp only [slotsOf]
  refine GE_seq ?_
  refine GE_plain (.st 0 .nil) rfl ?_
  refine GT_st rfl rfl rfl rfl (V_assign rfl rfl) ?_
  refine GT_nil ?_
  refine GE_seq ?_
  refine GE_seq ?_
  refine GE_plain (.st 0 (.st 1 (.st 2 .nil))) rfl ?_
  refine GT_st rfl rfl rfl rfl (V_move rfl rfl) ?_
  refine GT_st rfl rfl rfl rfl (V_len rfl Try.underlying24 rfl) ?_
  refine GT_st rfl rfl rfl rfl (V_gtr rfl rfl rfl) ?_
  refine GT_nil ?_
  first | refine GE_condNot rfl (fun h1 => ?_) (fun h1 => ?_) | refine GE_cond rfl (fun h1 => ?_) (fun h1 => ?_) | refine GE_condNotB rfl (fun h1 => ?_) (fun h1 => ?_) | refine GE_condB rfl (fun h1 => ?_) (fun h1 => ?_)
  · skip
    refine GE_seq ?_
    refine GE_slots (L' := []) trivial ?_
    refine GE_plain (.st 0 .nil) rfl ?_
    refine GT_st rfl rfl rfl rfl (V_assign rfl rfl) ?_
    refine GT_nil ?_
    refine GE_ret Try.func51 rfl (fun w hw => ⟨?_, hw.nil⟩)
    first | (simp [ptsCheck, *]; done) | (simp only [ptsCheck]; rw [if_pos (by omega)]) | (simp only [ptsCheck]; rw [if_neg (by omega), hn]; rfl) | (simp only [ptsCheck]; rw [List.take_of_length_le (by omega)] at hall; rw [if_neg (by omega), hall]; rfl)
  · skip
    refine GE_skip ?_
    refine GE_seq ?_
    refine GE_seq ?_
    refine GE_slots (L' := [(0, _)]) ⟨rfl, trivial⟩ ?_
    refine GE_plain (.st 0 .nil) rfl ?_
    refine GT_st rfl rfl rfl rfl (V_assign rfl rfl) ?_
    refine GT_nil ?_
    refine GE_block ?_
    refine GE_to (GE_loop (ι := Nat) (fun k => l.length - k) (fun k => [(0, .slice A l.length c), (3, I k)]) (fun k => []) (fun k => k ≤ l.length ∧ (l.take k).all ptOk = true) ?_ 0 ?_) ⟨rfl, rfl, trivial⟩ HS.nil
    · rintro k ⟨hk, hall⟩ ih
      refine GE_seq ?_
      refine GE_seq ?_
      refine GE_plain (.st 0 (.st 1 (.st 2 (.st 3 .nil)))) rfl ?_
      refine GT_st rfl rfl rfl rfl (V_move rfl rfl) ?_
      refine GT_st rfl rfl rfl rfl (V_move rfl rfl) ?_
      refine GT_st rfl rfl rfl rfl (V_len rfl Try.underlying24 rfl) ?_
      refine GT_st rfl rfl rfl rfl (V_lss rfl rfl rfl) ?_
      refine GT_nil ?_
      first | refine GE_condNot rfl (fun h2 => ?_) (fun h2 => ?_) | refine GE_cond rfl (fun h2 => ?_) (fun h2 => ?_) | refine GE_condNotB rfl (fun h2 => ?_) (fun h2 => ?_) | refine GE_condB rfl (fun h2 => ?_) (fun h2 => ?_)
      · have hlt : k < l.length := by omega
        refine GE_skip ?_
        refine GE_seq ?_
        refine GE_block ?_
        refine GE_seq ?_
        refine GE_slots (L' := [(0, _), (3, _)]) ⟨rfl, rfl, trivial⟩ ?_
        refine GE_plain (.st 0 (.st 1 (.st 2 (.st 3 (.ld 4 [] (.st 5 .nil)))))) rfl ?_
        refine GT_st rfl rfl rfl rfl (V_move rfl rfl) ?_
        refine GT_st rfl rfl rfl rfl (V_move rfl rfl) ?_
        refine GT_st rfl rfl rfl rfl (V_index rfl rfl rfl Try.underlying24 sz_39 rfl hlt (hp.isSome hlt)) ?_
        refine GT_st rfl rfl rfl rfl (V_loadN (vs := [_, _]) rfl rfl ag_39 sz_39 rfl (hp.ats noM hlt)) ?_
        refine GT_call0 rfl rfl rfl rfl rfl rfl rfl rfl rn_67 (fun w hw => C_ref03_edge (p := l.getD k default)) (GR_nil) ?_
        first | refine GT_st rfl rfl rfl rfl (V_not rfl rfl) ?_ | refine GT_st rfl rfl rfl rfl (V_notB rfl rfl) ?_
        refine GT_nil ?_
        first | refine GE_condNot rfl (fun hb => ?_) (fun hb => ?_) | refine GE_cond rfl (fun hb => ?_) (fun hb => ?_) | refine GE_condNotB rfl (fun hb => ?_) (fun hb => ?_) | refine GE_condB rfl (fun hb => ?_) (fun hb => ?_)
        · have hn := not_all_of hlt hb
          refine GE_seq ?_
          refine GE_slots (L' := []) trivial ?_
          refine GE_plain (.st 0 .nil) rfl ?_
          refine GT_st rfl rfl rfl rfl (V_assign rfl rfl) ?_
          refine GT_nil ?_
          refine GE_ret Try.func51 rfl (fun w hw => ⟨?_, hw.nil⟩)
          first | (simp [ptsCheck, *]; done) | (simp only [ptsCheck]; rw [if_pos (by omega)]) | (simp only [ptsCheck]; rw [if_neg (by omega), hn]; rfl) | (simp only [ptsCheck]; rw [List.take_of_length_le (by omega)] at hall; rw [if_neg (by omega), hall]; rfl)
        · skip
          refine GE_skip ?_
          refine GE_inBlock ?_
          refine GE_slots (L' := [(0, _), (3, _)]) ⟨rfl, rfl, trivial⟩ ?_
          refine GE_plain (.st 0 (.st 1 (.ld 2 [] .nil))) rfl ?_
          refine GT_st rfl rfl rfl rfl (V_move rfl rfl) ?_
          refine GT_st rfl rfl rfl rfl (V_add rfl rfl rfl (wrap_i64 (by omega))) ?_
          refine GT_ldv rfl rfl rfl rfl rfl (V_assign rfl rfl) (GR_nil) ?_
          refine GT_nil ?_
          exact GE_to (ih (k + 1) ⟨by omega, by rw [all_take_succ (by omega), hall, hb]; rfl⟩ (by omega)) ⟨rfl, rfl, trivial⟩ HS.nil
      · skip
        refine GE_exit rfl ?_
        refine GE_seq ?_
        refine GE_slots (L' := []) trivial ?_
        refine GE_plain (.st 0 .nil) rfl ?_
        refine GT_st rfl rfl rfl rfl (V_assign rfl rfl) ?_
        refine GT_nil ?_
        refine GE_ret Try.func51 rfl (fun w hw => ⟨?_, hw.nil⟩)
        first | (simp [ptsCheck, *]; done) | (simp only [ptsCheck]; rw [if_pos (by omega)]) | (simp only [ptsCheck]; rw [if_neg (by omega), hn]; rfl) | (simp only [ptsCheck]; rw [List.take_of_length_le (by omega)] at hall; rw [if_neg (by omega), hall]; rfl)
    · exact ⟨Nat.zero_le _, by simp⟩

theorem C_ref05_both {b : Blank} {A : Option Addr} {l : List Pt} {c : Nat} {w : World} (hp : RdL w 2 ePt A l) : Con0 Try.prog 40 [b.val, .slice A l.length c] w (I (both b l)) := by
  refine Ret_of (vs := [_, _]) hm none' Try.func40 rfl Try.ntmps40 rfl ?_
  dsimp only [slotsOf]
  refine GE_seq ?_
  refine GE_plain (.ld 0 [] (.st 1 .nil)) rfl ?_
  refine GT_box (z := [_, _, _, _, _, _]) rfl rfl rfl rfl rfl rfl rfl (fun _ => GR_nil) (fun b2 => ?_)
  refine GT_st rfl rfl rfl rfl (V_assign rfl rfl) ?_
  refine GT_nil ?_
  refine GE_seq ?_
  refine GE_seq ?_
  refine GE_plain (.st 0 (.ld 1 [] (.st 2 .nil))) rfl ?_
  refine GT_st rfl rfl rfl rfl (V_loadN (vs := [_, _, _, _, _, _]) rfl rfl ag_23 sz_23 rfl (CellsAt.item rfl)) ?_
  refine GT_call0 rfl rfl rfl rfl rfl rfl rfl rfl rn_22 (fun w hw => C_ref05_Check (b := b)) (GR_nil) ?_
  refine GT_st rfl rfl rfl rfl (V_neq rfl rfl rfl) ?_
  refine GT_nil ?_
  first | refine GE_condNot rfl (fun h1 => ?_) (fun h1 => ?_) | refine GE_cond rfl (fun h1 => ?_) (fun h1 => ?_) | refine GE_condNotB rfl (fun h1 => ?_) (fun h1 => ?_) | refine GE_condB rfl (fun h1 => ?_) (fun h1 => ?_)
  · have hb := Blank.check_ne.1 h1; have he := both_bad (l := l) hb
    refine GE_seq ?_
    refine GE_slots (L' := []) trivial ?_
    refine GE_plain (.st 0 .nil) rfl ?_
    refine GT_st rfl rfl rfl rfl (V_assign rfl rfl) ?_
    refine GT_nil ?_
    refine GE_ret Try.func40 rfl (fun w hw => ⟨?_, hw.nil⟩)
    rw [he]
  · have hb : b.ok = true := (by cases hk : b.ok with | true => rfl | false => exact absurd (Blank.check_of hk) (by omega)); have he := both_ok (l := l) hb
    refine GE_skip ?_
    refine GE_seq ?_
    refine GE_slots (L' := [(1, _)]) ⟨rfl, trivial⟩ ?_
    refine GE_plain (.st 0 (.ld 1 [] (.st 2 .nil))) rfl ?_
    refine GT_st rfl rfl rfl rfl (V_move rfl rfl) ?_
    refine GT_call0 rfl rfl rfl rfl rfl rfl rfl rfl rn_51 (fun w hw => C_ref03_CheckPoints (hp.sh hw)) (GR_nil) ?_
    refine GT_st rfl rfl rfl rfl (V_assign rfl rfl) ?_
    refine GT_nil ?_
    refine GE_ret Try.func40 rfl (fun w hw => ⟨?_, hw.nil⟩)
    rw [he]

theorem C_lathe_newSide_err {b : Blank} {A : Option Addr} {l : List Pt} {c : Nat} {w : World} (hp : RdL w 2 ePt A l) (hne : both b l ≠ 0) : Con0 Try.prog 38 [b.val, .slice A l.length c] w (.tuple #[.pointer none, I (both b l)]) := by
  refine Ret_of (vs := [_, _]) hm none' Try.func38 rfl Try.ntmps38 rfl ?_
  dsimp only [slotsOf]
  refine GE_seq ?_
  refine GE_plain (.ld 0 [] (.st 1 (.st 2 .nil))) rfl ?_
  refine GT_box (z := [_, _, _, _, _, _]) rfl rfl rfl rfl rfl rfl rfl (fun _ => GR_nil) (fun b2 => ?_)
  refine GT_st rfl rfl rfl rfl (V_assign rfl rfl) ?_
  refine GT_st rfl rfl rfl rfl (V_assign rfl rfl) ?_
  refine GT_nil ?_
  refine GE_seq ?_
  refine GE_seq ?_
  refine GE_plain (.st 0 (.ld 1 [] (.st 2 .nil))) rfl ?_
  refine GT_st rfl rfl rfl rfl (V_loadN (vs := [_, _, _, _, _, _]) rfl rfl ag_23 sz_23 rfl (CellsAt.item rfl)) ?_
  refine GT_call0 rfl rfl rfl rfl rfl rfl rfl rfl rn_21 (fun w hw => C_lathe_Check (b := b)) (GR_nil) ?_
  refine GT_st rfl rfl rfl rfl (V_assign rfl rfl) ?_
  refine GT_nil ?_
  refine GE_seq ?_
  refine GE_slots (L' := [(1, _), (2, _), (6, _)]) ⟨rfl, rfl, rfl, trivial⟩ ?_
  refine GE_plain (.st 0 (.st 1 .nil)) rfl ?_
  refine GT_st rfl rfl rfl rfl (V_move rfl rfl) ?_
  refine GT_st rfl rfl rfl rfl (V_neq rfl rfl rfl) ?_
  refine GT_nil ?_
  first | refine GE_condNot rfl (fun h1 => ?_) (fun h1 => ?_) | refine GE_cond rfl (fun h1 => ?_) (fun h1 => ?_) | refine GE_condNotB rfl (fun h1 => ?_) (fun h1 => ?_) | refine GE_condB rfl (fun h1 => ?_) (fun h1 => ?_)
  · have hb := Blank.check_ne.1 h1; have he := both_bad (l := l) hb; have he2 := Blank.check_of hb
    refine GE_seq ?_
    refine GE_slots (L' := [(6, _)]) ⟨rfl, trivial⟩ ?_
    refine GE_plain (.st 0 (.st 1 (.st 2 .nil))) rfl ?_
    refine GT_st rfl rfl rfl rfl (V_move rfl rfl) ?_
    refine GT_st rfl rfl rfl rfl (V_assign rfl rfl) ?_
    refine GT_st rfl rfl rfl rfl (V_assign rfl rfl) ?_
    refine GT_nil ?_
    refine GE_ret Try.func38 ⟨_, _, rfl, rfl, rfl⟩ (fun w hw => ⟨?_, hw.nil⟩)
    first | rw [he, he2] | rw [he]
  · have hb : b.ok = true := (by cases hk : b.ok with | true => rfl | false => exact absurd (Blank.check_of hk) (by omega)); have he := both_ok (l := l) hb; rw [he] at hne
    refine GE_skip ?_
    refine GE_seq ?_
    refine GE_seq ?_
    refine GE_plain (.st 0 (.ld 1 [] (.st 2 .nil))) rfl ?_
    refine GT_st rfl rfl rfl rfl (V_move rfl rfl) ?_
    refine GT_call0 rfl rfl rfl rfl rfl rfl rfl rfl rn_59 (fun w hw => C_groove_CheckPoints (hp.sh hw)) (GR_nil) ?_
    refine GT_st rfl rfl rfl rfl (V_assign rfl rfl) ?_
    refine GT_nil ?_
    refine GE_seq ?_
    refine GE_slots (L' := [(1, _), (2, _), (7, _)]) ⟨rfl, rfl, rfl, trivial⟩ ?_
    refine GE_plain (.st 0 (.st 1 .nil)) rfl ?_
    refine GT_st rfl rfl rfl rfl (V_move rfl rfl) ?_
    refine GT_st rfl rfl rfl rfl (V_neq rfl rfl rfl) ?_
    refine GT_nil ?_
    first | refine GE_condNot rfl (fun h2 => ?_) (fun h2 => ?_) | refine GE_cond rfl (fun h2 => ?_) (fun h2 => ?_) | refine GE_condNotB rfl (fun h2 => ?_) (fun h2 => ?_) | refine GE_condB rfl (fun h2 => ?_) (fun h2 => ?_)
    · skip
      refine GE_seq ?_
      refine GE_slots (L' := [(7, _)]) ⟨rfl, trivial⟩ ?_
      refine GE_plain (.st 0 (.st 1 (.st 2 .nil))) rfl ?_
      refine GT_st rfl rfl rfl rfl (V_move rfl rfl) ?_
      refine GT_st rfl rfl rfl rfl (V_assign rfl rfl) ?_
      refine GT_st rfl rfl rfl rfl (V_assign rfl rfl) ?_
      refine GT_nil ?_
      refine GE_ret Try.func38 ⟨_, _, rfl, rfl, rfl⟩ (fun w hw => ⟨?_, hw.nil⟩)
      first | rw [he, he2] | rw [he]
    · exact absurd (by omega) hne

theorem C_lathe_newSide_ok {b : Blank} {A : Option Addr} {l : List Pt} {c : Nat} {w : World} (hp : RdL w 2 ePt A l) (he : both b l = 0) : Con Try.prog 38 [b.val, .slice A l.length c] w (fun _ : Nat => True) (fun bs => .tuple #[ptr bs 0, I 0]) (fun bs => [(bs, blk (sideCells b A l c) 92)]) := by
  obtain ⟨hb, h3, h4⟩ := both_zero.1 he
  rw [both_ok hb] at he
  refine Ret_of (vs := [_, _]) hm none' Try.func38 rfl Try.ntmps38 rfl ?_
  dsimp only [slotsOf]
  refine GE_seq ?_
  refine GE_plain (.ld 0 [] (.st 1 (.st 2 .nil))) rfl ?_
  refine GT_box (z := [_, _, _, _, _, _]) rfl rfl rfl rfl rfl rfl rfl (fun _ => GR_nil) (fun b2 => ?_)
  refine GT_st rfl rfl rfl rfl (V_assign rfl rfl) ?_
  refine GT_st rfl rfl rfl rfl (V_assign rfl rfl) ?_
  refine GT_nil ?_
  refine GE_seq ?_
  refine GE_seq ?_
  refine GE_plain (.st 0 (.ld 1 [] (.st 2 .nil))) rfl ?_
  refine GT_st rfl rfl rfl rfl (V_loadN (vs := [_, _, _, _, _, _]) rfl rfl ag_23 sz_23 rfl (CellsAt.item rfl)) ?_
  refine GT_call0 rfl rfl rfl rfl rfl rfl rfl rfl rn_21 (fun w hw => C_lathe_Check (b := b)) (GR_nil) ?_
  refine GT_st rfl rfl rfl rfl (V_assign rfl rfl) ?_
  refine GT_nil ?_
  refine GE_seq ?_
  refine GE_slots (L' := [(1, _), (2, _), (6, _)]) ⟨rfl, rfl, rfl, trivial⟩ ?_
  refine GE_plain (.st 0 (.st 1 .nil)) rfl ?_
  refine GT_st rfl rfl rfl rfl (V_move rfl rfl) ?_
  refine GT_st rfl rfl rfl rfl (V_neq rfl rfl rfl) ?_
  refine GT_nil ?_
  first | refine GE_condNot rfl (fun h1 => ?_) (fun h1 => ?_) | refine GE_cond rfl (fun h1 => ?_) (fun h1 => ?_) | refine GE_condNotB rfl (fun h1 => ?_) (fun h1 => ?_) | refine GE_condB rfl (fun h1 => ?_) (fun h1 => ?_)
  · exact absurd (Blank.check_ne.1 h1) (by rw [hb]; decide)
  · skip
    refine GE_skip ?_
    refine GE_seq ?_
    refine GE_seq ?_
    refine GE_plain (.st 0 (.ld 1 [] (.st 2 .nil))) rfl ?_
    refine GT_st rfl rfl rfl rfl (V_move rfl rfl) ?_
    refine GT_call0 rfl rfl rfl rfl rfl rfl rfl rfl rn_59 (fun w hw => C_groove_CheckPoints (hp.sh hw)) (GR_nil) ?_
    refine GT_st rfl rfl rfl rfl (V_assign rfl rfl) ?_
    refine GT_nil ?_
    refine GE_seq ?_
    refine GE_slots (L' := [(1, _), (2, _), (7, _)]) ⟨rfl, rfl, rfl, trivial⟩ ?_
    refine GE_plain (.st 0 (.st 1 .nil)) rfl ?_
    refine GT_st rfl rfl rfl rfl (V_move rfl rfl) ?_
    refine GT_st rfl rfl rfl rfl (V_neq rfl rfl rfl) ?_
    refine GT_nil ?_
    first | refine GE_condNot rfl (fun h2 => ?_) (fun h2 => ?_) | refine GE_cond rfl (fun h2 => ?_) (fun h2 => ?_) | refine GE_condNotB rfl (fun h2 => ?_) (fun h2 => ?_) | refine GE_condB rfl (fun h2 => ?_) (fun h2 => ?_)
    · exact absurd he h2
    · skip
      refine GE_skip ?_
      refine GE_seq ?_
      refine GE_plain (.st 0 (.st 1 (.st 2 (.st 3 (.st 4 (.ld 5 [] (.st 6 (.st 7 .nil)))))))) rfl ?_
      refine GT_st rfl rfl rfl rfl (V_loadN (vs := [_, _, _, _, _, _]) rfl rfl ag_23 sz_23 rfl (CellsAt.item rfl)) ?_
      refine GT_st rfl rfl rfl rfl (V_move rfl rfl) ?_
      first | refine GT_st rfl rfl rfl rfl (V_field rfl rfl fo_23_0) ?_ | refine GT_st rfl rfl rfl rfl (V_fieldA rfl rfl fo_23_0) ?_
      refine GT_st rfl rfl rfl rfl (V_load rfl rfl ag_2 (CellAt.item rfl)) ?_
      refine GT_st rfl rfl rfl rfl (V_build (vs := [_, _, _, _, _, _, _, _]) rfl rfl zc_92 pl_92 sa_92 rfl) ?_
      refine GT_box (z := [_, _, _, _, _, _, _, _]) rfl rfl rfl rfl rfl rfl rfl (fun _ => GR_nil) (fun b23 => ?_)
      refine GT_st rfl rfl rfl rfl (V_assign rfl rfl) ?_
      refine GT_st rfl rfl rfl rfl (V_assign rfl rfl) ?_
      refine GT_nil ?_
      refine GE_ret Try.func38 ⟨_, _, rfl, rfl, rfl⟩ (fun w hw => ⟨b23, trivial, rfl, (show SH _ _ [(b23, blk [I b.per, I b.rim, I b.core, I b.land, I b.slow, I b.fast, .slice A l.length c, I b.per] 92)] _ from hw.chunk)⟩)
      skip

theorem C_lathe_Outermost {b : Blank} {A : Option Addr} {l : List Pt} {c : Nat} {w : World} (hp : RdL w 2 ePt A l) :
    Con Try.prog 17 [b.val, .slice A l.length c] w (fun y : Option Addr × Nat × Items => Own 1 2 eI (outR b l) (.slice y.1 (outR b l).length y.2.1) y.2.2) (fun y => .tuple #[.slice y.1 (outR b l).length y.2.1, I (outE b l)]) (fun y => y.2.2) := by
  by_cases he : both b l = 0
  · obtain ⟨hb, h3, h4⟩ := both_zero.1 he
    have hpb := ptB_of h4
    refine Ret_of (vs := [_, _]) hm none' Try.func17 rfl Try.ntmps17 rfl ?_
    dsimp only [slotsOf]
    refine GE_seq ?_
    refine GE_plain (.ld 0 [] (.st 1 (.st 2 .nil))) rfl ?_
    refine GT_box (z := [_, _, _, _, _, _]) rfl rfl rfl rfl rfl rfl rfl (fun _ => GR_nil) (fun b2 => ?_)
    refine GT_st rfl rfl rfl rfl (V_assign rfl rfl) ?_
    refine GT_st rfl rfl rfl rfl (V_assign rfl rfl) ?_
    refine GT_nil ?_
    refine GE_seq ?_
    refine GE_plain (.st 0 (.st 1 (.ld 2 [] (.st 3 (.st 4 (.st 5 (.st 6 (.st 7 .nil)))))))) rfl ?_
    refine GT_st rfl rfl rfl rfl (V_loadN (vs := [_, _, _, _, _, _]) rfl rfl ag_23 sz_23 rfl (CellsAt.item rfl)) ?_
    refine GT_st rfl rfl rfl rfl (V_move rfl rfl) ?_
    refine GT_call rfl rfl rfl rfl rfl rfl rfl rfl rn_38 (fun w hw => C_lathe_newSide_ok (hp.sh hw) he) (fun _ _ => GR_nil) (fun bs _ => ?_)
    refine GT_st rfl rfl rfl rfl (V_move rfl rfl) ?_
    refine GT_st rfl rfl rfl rfl (V_extract rfl rfl rfl) ?_
    refine GT_st rfl rfl rfl rfl (V_extract rfl rfl rfl) ?_
    refine GT_st rfl rfl rfl rfl (V_assign rfl rfl) ?_
    refine GT_st rfl rfl rfl rfl (V_assign rfl rfl) ?_
    refine GT_nil ?_
    refine GE_seq ?_
    refine GE_seq ?_
    refine GE_slots (L' := [(6, _), (7, _)]) ⟨rfl, rfl, trivial⟩ ?_
    refine GE_plain (.st 0 (.st 1 .nil)) rfl ?_
    refine GT_st rfl rfl rfl rfl (V_move rfl rfl) ?_
    refine GT_st rfl rfl rfl rfl (V_neq rfl rfl rfl) ?_
    refine GT_nil ?_
    first | refine GE_condNot rfl (fun h1 => ?_) (fun h1 => ?_) | refine GE_cond rfl (fun h1 => ?_) (fun h1 => ?_) | refine GE_condNotB rfl (fun h1 => ?_) (fun h1 => ?_) | refine GE_condB rfl (fun h1 => ?_) (fun h1 => ?_)
    · exact absurd rfl h1
    · skip
      refine GE_skip ?_
      refine GE_seq ?_
      refine GE_plain (.st 0 (.ld 1 [] (.ld 2 [] (.ld 3 [] .nil)))) rfl ?_
      refine GT_st rfl rfl rfl rfl (V_move rfl rfl) ?_
      refine GT_call rfl rfl rfl rfl rfl rfl rfl rfl rn_39 (fun w hw => C_lathe_search (SideAt.of hw) (hp.sh hw) hb h3 h4) (fun _ _ => GR_nil) (fun y hy => ?_)
      obtain ⟨rad, st, ⟨A1, c1, I1⟩, A2, c2, I2⟩ := y; obtain ⟨hS, hO1, hO2⟩ := hy; dsimp only at hS hO1 hO2 ⊢
      refine GT_alloc rfl rfl rfl rfl rfl zc_70 (fun _ => GR_nil) (fun b8 => ?_)
      refine GT_store (vs := [_, _]) (l' := [_, _]) rfl rfl rfl rfl rfl rfl rfl sz_70 rfl rfl (Nat.le_of_ble_eq_true rfl) rfl (GR_nil) ?_
      refine GT_nil ?_
      refine GE_seq ?_
      refine GE_seq ?_
      refine GE_slots (L' := [(8, _)]) ⟨rfl, trivial⟩ ?_
      refine GE_plain (.st 0 (.st 1 (.st 2 (.st 3 .nil)))) rfl ?_
      first | refine GT_st rfl rfl rfl rfl (V_field rfl rfl fo_70_1) ?_ | refine GT_st rfl rfl rfl rfl (V_fieldA rfl rfl fo_70_1) ?_
      refine GT_st rfl rfl rfl rfl (V_load rfl rfl ag_56 (CellAt.item rfl)) ?_
      refine GT_st rfl rfl rfl rfl (V_len rfl Try.underlying56 rfl) ?_
      refine GT_st rfl rfl rfl rfl (V_gtr rfl rfl rfl) ?_
      refine GT_nil ?_
      first | refine GE_condNot rfl (fun h5 => ?_) (fun h5 => ?_) | refine GE_cond rfl (fun h5 => ?_) (fun h5 => ?_) | refine GE_condNotB rfl (fun h5 => ?_) (fun h5 => ?_) | refine GE_condB rfl (fun h5 => ?_) (fun h5 => ?_)
      · skip
        refine GE_seq ?_
        refine GE_slots (L' := []) trivial ?_
        refine GE_plain (.st 0 (.st 1 .nil)) rfl ?_
        refine GT_st rfl rfl rfl rfl (V_assign rfl rfl) ?_
        refine GT_st rfl rfl rfl rfl (V_assign rfl rfl) ?_
        refine GT_nil ?_
        refine GE_ret Try.func17 ⟨_, _, rfl, rfl, rfl⟩ (fun w hw => ?_)
        rcases search_outer hb hpb hS with ⟨rfl, _⟩ | ⟨_, g2⟩; exact absurd h5 (by simp); obtain ⟨e1, e2⟩ := outE_none he g2; exact ⟨(none, 0, []), by rw [e2]; exact Own.nil, by rw [e1, e2]; rfl, hw.nil⟩
      · skip
        refine GE_skip ?_
        refine GE_seq ?_
        refine GE_slots (L' := [(8, _)]) ⟨rfl, trivial⟩ ?_
        refine GE_plain (.st 0 (.st 1 (.st 2 (.st 3 .nil)))) rfl ?_
        first | refine GT_st rfl rfl rfl rfl (V_field rfl rfl fo_70_0) ?_ | refine GT_st rfl rfl rfl rfl (V_fieldA rfl rfl fo_70_0) ?_
        refine GT_st rfl rfl rfl rfl (V_load rfl rfl ag_25 (CellAt.item rfl)) ?_
        refine GT_st rfl rfl rfl rfl (V_assign rfl rfl) ?_
        refine GT_st rfl rfl rfl rfl (V_assign rfl rfl) ?_
        refine GT_nil ?_
        refine GE_ret Try.func17 ⟨_, _, rfl, rfl, rfl⟩ (fun w hw => ?_)
        rcases search_outer hb hpb hS with ⟨_, g2⟩ | ⟨g1, _⟩; obtain ⟨e1, e2⟩ := outE_of he g2; exact ⟨(A1, c1, I1), by rw [e2]; exact hO1, by rw [e1, e2], hw.chunk⟩; exact absurd g1 (by omega)
  · obtain ⟨e1, e2⟩ := outE_err he
    refine Ret_of (vs := [_, _]) hm none' Try.func17 rfl Try.ntmps17 rfl ?_
    dsimp only [slotsOf]
    refine GE_seq ?_
    refine GE_plain (.ld 0 [] (.st 1 (.st 2 .nil))) rfl ?_
    refine GT_box (z := [_, _, _, _, _, _]) rfl rfl rfl rfl rfl rfl rfl (fun _ => GR_nil) (fun b2 => ?_)
    refine GT_st rfl rfl rfl rfl (V_assign rfl rfl) ?_
    refine GT_st rfl rfl rfl rfl (V_assign rfl rfl) ?_
    refine GT_nil ?_
    refine GE_seq ?_
    refine GE_plain (.st 0 (.st 1 (.ld 2 [] (.st 3 (.st 4 (.st 5 (.st 6 (.st 7 .nil)))))))) rfl ?_
    refine GT_st rfl rfl rfl rfl (V_loadN (vs := [_, _, _, _, _, _]) rfl rfl ag_23 sz_23 rfl (CellsAt.item rfl)) ?_
    refine GT_st rfl rfl rfl rfl (V_move rfl rfl) ?_
    refine GT_call0 rfl rfl rfl rfl rfl rfl rfl rfl rn_38 (fun w hw => C_lathe_newSide_err (hp.sh hw) he) (GR_nil) ?_
    refine GT_st rfl rfl rfl rfl (V_move rfl rfl) ?_
    refine GT_st rfl rfl rfl rfl (V_extract rfl rfl rfl) ?_
    refine GT_st rfl rfl rfl rfl (V_extract rfl rfl rfl) ?_
    refine GT_st rfl rfl rfl rfl (V_assign rfl rfl) ?_
    refine GT_st rfl rfl rfl rfl (V_assign rfl rfl) ?_
    refine GT_nil ?_
    refine GE_seq ?_
    refine GE_seq ?_
    refine GE_slots (L' := [(6, _), (7, _)]) ⟨rfl, rfl, trivial⟩ ?_
    refine GE_plain (.st 0 (.st 1 .nil)) rfl ?_
    refine GT_st rfl rfl rfl rfl (V_move rfl rfl) ?_
    refine GT_st rfl rfl rfl rfl (V_neq rfl rfl rfl) ?_
    refine GT_nil ?_
    first | refine GE_condNot rfl (fun h5 => ?_) (fun h5 => ?_) | refine GE_cond rfl (fun h5 => ?_) (fun h5 => ?_) | refine GE_condNotB rfl (fun h5 => ?_) (fun h5 => ?_) | refine GE_condB rfl (fun h5 => ?_) (fun h5 => ?_)
    · skip
      refine GE_seq ?_
      refine GE_plain (.st 0 (.st 1 (.st 2 .nil))) rfl ?_
      refine GT_st rfl rfl rfl rfl (V_move rfl rfl) ?_
      refine GT_st rfl rfl rfl rfl (V_assign rfl rfl) ?_
      refine GT_st rfl rfl rfl rfl (V_assign rfl rfl) ?_
      refine GT_nil ?_
      refine GE_ret Try.func17 ⟨_, _, rfl, rfl, rfl⟩ (fun w hw => ?_)
      exact ⟨(none, 0, []), by rw [e2]; exact Own.nil, by rw [e1, e2]; rfl, hw.nil⟩
    · exact absurd (by omega) he

set_option maxRecDepth 10000 in
theorem C_ref05_Kept {b : Blank} {A A2 : Option Addr} {l : List Pt} {r : List Int} {c c2 n i : Nat} {rule : Int} {w : World} (hp : RdL w 2 ePt A l) (hr : RdL w 1 eI A2 r) (hb : b.ok = true) (hpb : PtB l) (hn : n = l.length) (hrn : r.length = l.length) (hsm : Sm r) (hi : i < l.length) (hl : l.length ≤ 4096) :
    Con0 Try.prog 48 [b.val, .slice A l.length c, .slice A2 n c2, I i, I rule] w (.bool (kept b l r i rule)) := by
  subst hn
  rw [Blank.ok_iff] at hb
  have hri := hsm i (by omega)
  have hpi := hpb i hi
  refine Ret_of (vs := [_, _, _, _, _]) hm none' Try.func48 rfl Try.ntmps48 rfl ?_
  dsimp only [slotsOf]
  refine GE_seq ?_
  refine GE_plain (.ld 0 [] (.st 1 .nil)) rfl ?_
  refine GT_box (z := [_, _, _, _, _, _]) rfl rfl rfl rfl rfl rfl rfl (fun _ => GR_nil) (fun b5 => ?_)
  refine GT_st rfl rfl rfl rfl (V_assign rfl rfl) ?_
  refine GT_nil ?_
  refine GE_seq ?_
  refine GE_plain (.st 0 (.st 1 (.st 2 .nil))) rfl ?_
  first | refine GT_st rfl rfl rfl rfl (V_field rfl rfl fo_23_0) ?_ | refine GT_st rfl rfl rfl rfl (V_fieldA rfl rfl fo_23_0) ?_
  refine GT_st rfl rfl rfl rfl (V_load rfl rfl ag_2 (CellAt.item rfl)) ?_
  refine GT_st rfl rfl rfl rfl (V_assign rfl rfl) ?_
  refine GT_nil ?_
  refine GE_seq ?_
  refine GE_seq ?_
  refine GE_slots (L' := [(1, _), (2, _), (3, _), (4, _), (5, _), (11, _)]) ⟨rfl, rfl, rfl, rfl, rfl, rfl, trivial⟩ ?_
  refine GE_plain (.st 0 .nil) rfl ?_
  refine GT_st rfl rfl rfl rfl (V_move rfl rfl) ?_
  refine GT_nil ?_
  refine GE_block ?_
  refine GE_seq ?_
  refine GE_plain (.st 0 (.st 1 .nil)) rfl ?_
  refine GT_st rfl rfl rfl rfl (V_eql rfl rfl rfl) ?_
  refine GT_st rfl rfl rfl rfl (V_assign rfl rfl) ?_
  refine GT_nil ?_
  first | refine GE_condNot rfl (fun h1 => ?_) (fun h1 => ?_) | refine GE_cond rfl (fun h1 => ?_) (fun h1 => ?_) | refine GE_condNotB rfl (fun h1 => ?_) (fun h1 => ?_) | refine GE_condB rfl (fun h1 => ?_) (fun h1 => ?_)
  · skip
    refine GE_seq ?_
    refine GE_slots (L' := [(1, _), (2, _), (3, _), (5, _)]) ⟨rfl, rfl, rfl, rfl, trivial⟩ ?_
    refine GE_drawn (.st 0 (.st 1 (.st 2 (.st 3 (.st 4 (.st 5 (.st 6 (.st 7 (.st 8 (.st 9 (.st 10 (.st 11 (.st 12 (.st 13 .nil)))))))))))))) [] (by decide +kernel) ?_
    refine GT_st rfl rfl rfl rfl (V_move rfl rfl) ?_
    refine GT_st rfl rfl rfl rfl (V_move rfl rfl) ?_
    refine GT_st rfl rfl rfl rfl (V_index rfl rfl rfl Try.underlying25 sz_2 (k := i) rfl hi (hr.isSome (k := i) (by omega))) ?_
    refine GT_st rfl rfl rfl rfl (V_load rfl rfl ag_2 (hr.at0 noM (by omega) rfl)) ?_
    refine GT_st rfl rfl rfl rfl (V_move rfl rfl) ?_
    refine GT_st rfl rfl rfl rfl (V_move rfl rfl) ?_
    refine GT_st rfl rfl rfl rfl (V_index rfl rfl rfl Try.underlying24 sz_39 (k := i) rfl hi (hp.isSome hi)) ?_
    first | refine GT_st rfl rfl rfl rfl (V_field rfl rfl fo_39_1) ?_ | refine GT_st rfl rfl rfl rfl (V_fieldA rfl rfl fo_39_1) ?_
    refine GT_st rfl rfl rfl rfl (V_load rfl rfl ag_2 (hp.at1 noM hi rfl)) ?_
    refine GT_st rfl rfl rfl rfl (V_add rfl rfl rfl (wrap_i64 (by omega))) ?_
    first | refine GT_st rfl rfl rfl rfl (V_field rfl rfl fo_23_1) ?_ | refine GT_st rfl rfl rfl rfl (V_fieldA rfl rfl fo_23_1) ?_
    refine GT_st rfl rfl rfl rfl (V_load rfl rfl ag_2 (CellAt.item rfl)) ?_
    refine GT_st rfl rfl rfl rfl (V_leq rfl rfl rfl) ?_
    refine GT_st rfl rfl rfl rfl (V_assign rfl rfl) ?_
    refine GT_nil ?_
    refine GE_ret Try.func48 rfl (fun w hw => ⟨?_, hw.nil⟩)
    unfold kept; (repeat' split) <;> first | (exfalso; omega) | exact congrArg Value.bool (decide_eq_decide.2 (by omega)) | exact congrArg Value.bool (decide_eq_true (by omega)).symm
  · skip
    refine GE_seq ?_
    refine GE_plain (.st 0 (.st 1 .nil)) rfl ?_
    refine GT_st rfl rfl rfl rfl (V_eql rfl rfl rfl) ?_
    refine GT_st rfl rfl rfl rfl (V_assign rfl rfl) ?_
    refine GT_nil ?_
    first | refine GE_condNot rfl (fun h2 => ?_) (fun h2 => ?_) | refine GE_cond rfl (fun h2 => ?_) (fun h2 => ?_) | refine GE_condNotB rfl (fun h2 => ?_) (fun h2 => ?_) | refine GE_condB rfl (fun h2 => ?_) (fun h2 => ?_)
    · skip
      refine GE_seq ?_
      refine GE_slots (L' := [(1, _), (2, _), (3, _), (5, _)]) ⟨rfl, rfl, rfl, rfl, trivial⟩ ?_
      refine GE_drawn (.st 0 (.st 1 (.st 2 (.st 3 (.st 4 (.st 5 (.st 6 (.st 7 (.st 8 (.st 9 (.st 10 (.st 11 (.st 12 (.st 13 .nil)))))))))))))) [] (by decide +kernel) ?_
      refine GT_st rfl rfl rfl rfl (V_move rfl rfl) ?_
      refine GT_st rfl rfl rfl rfl (V_move rfl rfl) ?_
      refine GT_st rfl rfl rfl rfl (V_index rfl rfl rfl Try.underlying25 sz_2 (k := i) rfl hi (hr.isSome (k := i) (by omega))) ?_
      refine GT_st rfl rfl rfl rfl (V_load rfl rfl ag_2 (hr.at0 noM (by omega) rfl)) ?_
      refine GT_st rfl rfl rfl rfl (V_move rfl rfl) ?_
      refine GT_st rfl rfl rfl rfl (V_move rfl rfl) ?_
      refine GT_st rfl rfl rfl rfl (V_index rfl rfl rfl Try.underlying24 sz_39 (k := i) rfl hi (hp.isSome hi)) ?_
      first | refine GT_st rfl rfl rfl rfl (V_field rfl rfl fo_39_0) ?_ | refine GT_st rfl rfl rfl rfl (V_fieldA rfl rfl fo_39_0) ?_
      refine GT_st rfl rfl rfl rfl (V_load rfl rfl ag_2 (hp.at0 noM hi rfl)) ?_
      refine GT_st rfl rfl rfl rfl (V_add rfl rfl rfl (wrap_i64 (by omega))) ?_
      first | refine GT_st rfl rfl rfl rfl (V_field rfl rfl fo_23_2) ?_ | refine GT_st rfl rfl rfl rfl (V_fieldA rfl rfl fo_23_2) ?_
      refine GT_st rfl rfl rfl rfl (V_load rfl rfl ag_2 (CellAt.item rfl)) ?_
      refine GT_st rfl rfl rfl rfl (V_geq rfl rfl rfl) ?_
      refine GT_st rfl rfl rfl rfl (V_assign rfl rfl) ?_
      refine GT_nil ?_
      refine GE_ret Try.func48 rfl (fun w hw => ⟨?_, hw.nil⟩)
      unfold kept; (repeat' split) <;> first | (exfalso; omega) | exact congrArg Value.bool (decide_eq_decide.2 (by omega)) | exact congrArg Value.bool (decide_eq_true (by omega)).symm
    · skip
      refine GE_seq ?_
      refine GE_slots (L' := [(1, _), (2, _), (3, _), (5, _), (11, _), (14, _)]) ⟨rfl, rfl, rfl, rfl, rfl, rfl, trivial⟩ ?_
      refine GE_plain (.st 0 (.st 1 .nil)) rfl ?_
      refine GT_st rfl rfl rfl rfl (V_eql rfl rfl rfl) ?_
      refine GT_st rfl rfl rfl rfl (V_assign rfl rfl) ?_
      refine GT_nil ?_
      first | refine GE_condNot rfl (fun h3 => ?_) (fun h3 => ?_) | refine GE_cond rfl (fun h3 => ?_) (fun h3 => ?_) | refine GE_condNotB rfl (fun h3 => ?_) (fun h3 => ?_) | refine GE_condB rfl (fun h3 => ?_) (fun h3 => ?_)
      · skip
        refine GE_seq ?_
        refine GE_slots (L' := [(2, _), (3, _), (5, _)]) ⟨rfl, rfl, rfl, trivial⟩ ?_
        refine GE_drawn (.st 0 (.st 1 (.st 2 (.st 3 (.st 4 (.st 5 (.st 6 (.st 7 (.st 8 (.st 9 (.st 10 (.st 11 (.st 12 (.st 13 (.st 14 (.st 15 (.st 16 (.st 17 .nil)))))))))))))))))) [] (by decide +kernel) ?_
        refine GT_st rfl rfl rfl rfl (V_move rfl rfl) ?_
        refine GT_st rfl rfl rfl rfl (V_lss rfl rfl rfl) ?_
        refine GT_st rfl rfl rfl rfl (V_move rfl rfl) ?_
        first | refine GT_splitNot (d := 49) rfl (fun h3 => ?_) (fun h3 => ?_) | refine GT_split (d := 49) rfl (fun h3 => ?_) (fun h3 => ?_) | refine GT_splitNotB (d := 49) rfl (fun h3 => ?_) (fun h3 => ?_) | refine GT_splitB (d := 49) rfl (fun h3 => ?_) (fun h3 => ?_)
        · skip
          refine GT_skip rfl rfl rfl rfl rfl (by decide) rfl rfl ?_
          refine GT_skip rfl rfl rfl rfl rfl (by decide) rfl rfl ?_
          refine GT_skip rfl rfl rfl rfl rfl (by decide) rfl rfl ?_
          refine GT_skip rfl rfl rfl rfl rfl (by decide) rfl rfl ?_
          refine GT_skip rfl rfl rfl rfl rfl (by decide) rfl rfl ?_
          refine GT_skip rfl rfl rfl rfl rfl (by decide) rfl rfl ?_
          refine GT_skip rfl rfl rfl rfl rfl (by decide) rfl rfl ?_
          refine GT_skip rfl rfl rfl rfl rfl (by decide) rfl rfl ?_
          refine GT_skip rfl rfl rfl rfl rfl (by decide) rfl rfl ?_
          refine GT_skip rfl rfl rfl rfl rfl (by decide) rfl rfl ?_
          refine GT_skip rfl rfl rfl rfl rfl (by decide) rfl rfl ?_
          refine GT_skip rfl rfl rfl rfl rfl (by decide) rfl rfl ?_
          refine GT_skip rfl rfl rfl rfl rfl (by decide) rfl rfl ?_
          refine GT_st rfl rfl rfl rfl (V_pick_t rfl rfl rfl) ?_
          refine GT_st rfl rfl rfl rfl (V_assign rfl rfl) ?_
          refine GT_nil ?_
          refine GE_ret Try.func48 rfl (fun w hw => ⟨?_, hw.nil⟩)
          unfold kept; (repeat' split) <;> first | (exfalso; omega) | exact congrArg Value.bool (decide_eq_decide.2 (by omega)) | exact congrArg Value.bool (decide_eq_true (by omega)).symm
        · have hr1 := hsm (i - 1) (by omega)
          refine GT_st_g rfl rfl rfl rfl rfl rfl rfl (V_move rfl rfl) ?_
          refine GT_st_g rfl rfl rfl rfl rfl rfl rfl (V_move rfl rfl) ?_
          refine GT_st_g rfl rfl rfl rfl rfl rfl rfl (V_sub rfl rfl rfl (wrap_i64 (by omega))) ?_
          refine GT_st_g rfl rfl rfl rfl rfl rfl rfl (V_index rfl rfl rfl Try.underlying25 sz_2 (k := i - 1) (by omega) (by omega) (hr.isSome (k := i) (by omega))) ?_
          refine GT_st_g rfl rfl rfl rfl rfl rfl rfl (V_load rfl rfl ag_2 (hr.at0 noM (by omega) rfl)) ?_
          refine GT_st_g rfl rfl rfl rfl rfl rfl rfl (V_move rfl rfl) ?_
          refine GT_st_g rfl rfl rfl rfl rfl rfl rfl (V_move rfl rfl) ?_
          refine GT_st_g rfl rfl rfl rfl rfl rfl rfl (V_index rfl rfl rfl Try.underlying25 sz_2 (k := i) rfl hi (hr.isSome (k := i) (by omega))) ?_
          refine GT_st_g rfl rfl rfl rfl rfl rfl rfl (V_load rfl rfl ag_2 (hr.at0 noM (by omega) rfl)) ?_
          refine GT_st_g rfl rfl rfl rfl rfl rfl rfl (V_sub rfl rfl rfl (wrap_i64 (by omega))) ?_
          first | refine GT_st_g rfl rfl rfl rfl rfl rfl rfl (V_field rfl rfl fo_23_4) ?_ | refine GT_st_g rfl rfl rfl rfl rfl rfl rfl (V_fieldA rfl rfl fo_23_4) ?_
          refine GT_st_g rfl rfl rfl rfl rfl rfl rfl (V_load rfl rfl ag_2 (CellAt.item rfl)) ?_
          refine GT_st_g rfl rfl rfl rfl rfl rfl rfl (V_geq rfl rfl rfl) ?_
          refine GT_st rfl rfl rfl rfl (V_pick_f rfl rfl rfl) ?_
          refine GT_st rfl rfl rfl rfl (V_assign rfl rfl) ?_
          refine GT_nil ?_
          refine GE_ret Try.func48 rfl (fun w hw => ⟨?_, hw.nil⟩)
          unfold kept; (repeat' split) <;> first | (exfalso; omega) | exact congrArg Value.bool (decide_eq_decide.2 (by omega)) | exact congrArg Value.bool (decide_eq_true (by omega)).symm
      · skip
        refine GE_seq ?_
        refine GE_plain (.st 0 (.st 1 .nil)) rfl ?_
        refine GT_st rfl rfl rfl rfl (V_eql rfl rfl rfl) ?_
        refine GT_st rfl rfl rfl rfl (V_assign rfl rfl) ?_
        refine GT_nil ?_
        first | refine GE_condNot rfl (fun h4 => ?_) (fun h4 => ?_) | refine GE_cond rfl (fun h4 => ?_) (fun h4 => ?_) | refine GE_condNotB rfl (fun h4 => ?_) (fun h4 => ?_) | refine GE_condB rfl (fun h4 => ?_) (fun h4 => ?_)
        · skip
          refine GE_seq ?_
          refine GE_slots (L' := [(2, _), (3, _), (5, _)]) ⟨rfl, rfl, rfl, trivial⟩ ?_
          refine GE_drawn (.st 0 (.st 1 (.st 2 (.st 3 (.st 4 (.st 5 (.st 6 (.st 7 (.st 8 (.st 9 (.st 10 (.st 11 (.st 12 (.st 13 (.st 14 (.st 15 (.st 16 (.st 17 .nil)))))))))))))))))) [] (by decide +kernel) ?_
          refine GT_st rfl rfl rfl rfl (V_move rfl rfl) ?_
          refine GT_st rfl rfl rfl rfl (V_lss rfl rfl rfl) ?_
          refine GT_st rfl rfl rfl rfl (V_move rfl rfl) ?_
          first | refine GT_splitNot (d := 68) rfl (fun h4 => ?_) (fun h4 => ?_) | refine GT_split (d := 68) rfl (fun h4 => ?_) (fun h4 => ?_) | refine GT_splitNotB (d := 68) rfl (fun h4 => ?_) (fun h4 => ?_) | refine GT_splitB (d := 68) rfl (fun h4 => ?_) (fun h4 => ?_)
          · skip
            refine GT_skip rfl rfl rfl rfl rfl (by decide) rfl rfl ?_
            refine GT_skip rfl rfl rfl rfl rfl (by decide) rfl rfl ?_
            refine GT_skip rfl rfl rfl rfl rfl (by decide) rfl rfl ?_
            refine GT_skip rfl rfl rfl rfl rfl (by decide) rfl rfl ?_
            refine GT_skip rfl rfl rfl rfl rfl (by decide) rfl rfl ?_
            refine GT_skip rfl rfl rfl rfl rfl (by decide) rfl rfl ?_
            refine GT_skip rfl rfl rfl rfl rfl (by decide) rfl rfl ?_
            refine GT_skip rfl rfl rfl rfl rfl (by decide) rfl rfl ?_
            refine GT_skip rfl rfl rfl rfl rfl (by decide) rfl rfl ?_
            refine GT_skip rfl rfl rfl rfl rfl (by decide) rfl rfl ?_
            refine GT_skip rfl rfl rfl rfl rfl (by decide) rfl rfl ?_
            refine GT_skip rfl rfl rfl rfl rfl (by decide) rfl rfl ?_
            refine GT_skip rfl rfl rfl rfl rfl (by decide) rfl rfl ?_
            refine GT_st rfl rfl rfl rfl (V_pick_t rfl rfl rfl) ?_
            refine GT_st rfl rfl rfl rfl (V_assign rfl rfl) ?_
            refine GT_nil ?_
            refine GE_ret Try.func48 rfl (fun w hw => ⟨?_, hw.nil⟩)
            unfold kept; (repeat' split) <;> first | (exfalso; omega) | exact congrArg Value.bool (decide_eq_decide.2 (by omega)) | exact congrArg Value.bool (decide_eq_true (by omega)).symm
          · have hr1 := hsm (i - 1) (by omega)
            refine GT_st_g rfl rfl rfl rfl rfl rfl rfl (V_move rfl rfl) ?_
            refine GT_st_g rfl rfl rfl rfl rfl rfl rfl (V_move rfl rfl) ?_
            refine GT_st_g rfl rfl rfl rfl rfl rfl rfl (V_sub rfl rfl rfl (wrap_i64 (by omega))) ?_
            refine GT_st_g rfl rfl rfl rfl rfl rfl rfl (V_index rfl rfl rfl Try.underlying25 sz_2 (k := i - 1) (by omega) (by omega) (hr.isSome (k := i) (by omega))) ?_
            refine GT_st_g rfl rfl rfl rfl rfl rfl rfl (V_load rfl rfl ag_2 (hr.at0 noM (by omega) rfl)) ?_
            refine GT_st_g rfl rfl rfl rfl rfl rfl rfl (V_move rfl rfl) ?_
            refine GT_st_g rfl rfl rfl rfl rfl rfl rfl (V_move rfl rfl) ?_
            refine GT_st_g rfl rfl rfl rfl rfl rfl rfl (V_index rfl rfl rfl Try.underlying25 sz_2 (k := i) rfl hi (hr.isSome (k := i) (by omega))) ?_
            refine GT_st_g rfl rfl rfl rfl rfl rfl rfl (V_load rfl rfl ag_2 (hr.at0 noM (by omega) rfl)) ?_
            refine GT_st_g rfl rfl rfl rfl rfl rfl rfl (V_sub rfl rfl rfl (wrap_i64 (by omega))) ?_
            first | refine GT_st_g rfl rfl rfl rfl rfl rfl rfl (V_field rfl rfl fo_23_5) ?_ | refine GT_st_g rfl rfl rfl rfl rfl rfl rfl (V_fieldA rfl rfl fo_23_5) ?_
            refine GT_st_g rfl rfl rfl rfl rfl rfl rfl (V_load rfl rfl ag_2 (CellAt.item rfl)) ?_
            refine GT_st_g rfl rfl rfl rfl rfl rfl rfl (V_leq rfl rfl rfl) ?_
            refine GT_st rfl rfl rfl rfl (V_pick_f rfl rfl rfl) ?_
            refine GT_st rfl rfl rfl rfl (V_assign rfl rfl) ?_
            refine GT_nil ?_
            refine GE_ret Try.func48 rfl (fun w hw => ⟨?_, hw.nil⟩)
            unfold kept; (repeat' split) <;> first | (exfalso; omega) | exact congrArg Value.bool (decide_eq_decide.2 (by omega)) | exact congrArg Value.bool (decide_eq_true (by omega)).symm
        · skip
          refine GE_skip ?_
          refine GE_inBlock ?_
          refine GE_seq ?_
          refine GE_slots (L' := [(1, _), (2, _), (3, _), (5, _), (11, _)]) ⟨rfl, rfl, rfl, rfl, rfl, trivial⟩ ?_
          refine GE_drawn (.st 0 (.st 1 (.st 2 (.st 3 (.st 4 (.st 5 (.st 6 (.st 7 (.st 8 (.st 9 (.st 10 (.st 11 (.st 12 (.st 13 (.st 14 (.st 15 (.st 16 (.st 17 (.st 18 (.st 19 (.st 20 (.st 21 (.st 22 (.st 23 (.st 24 (.st 25 (.st 26 (.st 27 (.st 28 (.st 29 (.st 30 (.st 31 (.st 32 (.st 33 .nil)))))))))))))))))))))))))))))))))) [] (by decide +kernel) ?_
          refine GT_st rfl rfl rfl rfl (V_move rfl rfl) ?_
          refine GT_st rfl rfl rfl rfl (V_move rfl rfl) ?_
          refine GT_st rfl rfl rfl rfl (V_lss rfl rfl rfl) ?_
          refine GT_st rfl rfl rfl rfl (V_move rfl rfl) ?_
          first | refine GT_splitNot (d := 86) rfl (fun h5 => ?_) (fun h5 => ?_) | refine GT_split (d := 86) rfl (fun h5 => ?_) (fun h5 => ?_) | refine GT_splitNotB (d := 86) rfl (fun h5 => ?_) (fun h5 => ?_) | refine GT_splitB (d := 86) rfl (fun h5 => ?_) (fun h5 => ?_)
          · skip
            refine GT_skip rfl rfl rfl rfl rfl (by decide) rfl rfl ?_
            refine GT_skip rfl rfl rfl rfl rfl (by decide) rfl rfl ?_
            refine GT_skip rfl rfl rfl rfl rfl (by decide) rfl rfl ?_
            refine GT_skip rfl rfl rfl rfl rfl (by decide) rfl rfl ?_
            refine GT_skip rfl rfl rfl rfl rfl (by decide) rfl rfl ?_
            refine GT_skip rfl rfl rfl rfl rfl (by decide) rfl rfl ?_
            refine GT_skip rfl rfl rfl rfl rfl (by decide) rfl rfl ?_
            refine GT_skip rfl rfl rfl rfl rfl (by decide) rfl rfl ?_
            refine GT_skip rfl rfl rfl rfl rfl (by decide) rfl rfl ?_
            refine GT_skip rfl rfl rfl rfl rfl (by decide) rfl rfl ?_
            refine GT_skip rfl rfl rfl rfl rfl (by decide) rfl rfl ?_
            refine GT_skip rfl rfl rfl rfl rfl (by decide) rfl rfl ?_
            refine GT_skip rfl rfl rfl rfl rfl (by decide) rfl rfl ?_
            refine GT_skip rfl rfl rfl rfl rfl (by decide) rfl rfl ?_
            refine GT_skip rfl rfl rfl rfl rfl (by decide) rfl rfl ?_
            refine GT_skip rfl rfl rfl rfl rfl (by decide) rfl rfl ?_
            refine GT_skip rfl rfl rfl rfl rfl (by decide) rfl rfl ?_
            refine GT_skip rfl rfl rfl rfl rfl (by decide) rfl rfl ?_
            refine GT_skip rfl rfl rfl rfl rfl (by decide) rfl rfl ?_
            refine GT_skip rfl rfl rfl rfl rfl (by decide) rfl rfl ?_
            refine GT_skip rfl rfl rfl rfl rfl (by decide) rfl rfl ?_
            refine GT_skip rfl rfl rfl rfl rfl (by decide) rfl rfl ?_
            refine GT_skip rfl rfl rfl rfl rfl (by decide) rfl rfl ?_
            refine GT_skip rfl rfl rfl rfl rfl (by decide) rfl rfl ?_
            refine GT_skip rfl rfl rfl rfl rfl (by decide) rfl rfl ?_
            refine GT_skip rfl rfl rfl rfl rfl (by decide) rfl rfl ?_
            refine GT_skip rfl rfl rfl rfl rfl (by decide) rfl rfl ?_
            refine GT_skip rfl rfl rfl rfl rfl (by decide) rfl rfl ?_
            refine GT_st rfl rfl rfl rfl (V_pick_t rfl rfl rfl) ?_
            refine GT_st rfl rfl rfl rfl (V_assign rfl rfl) ?_
            refine GT_nil ?_
            refine GE_ret Try.func48 rfl (fun w hw => ⟨?_, hw.nil⟩)
            unfold kept; (repeat' split) <;> first | (exfalso; omega) | exact congrArg Value.bool (decide_eq_decide.2 (by omega)) | exact congrArg Value.bool (decide_eq_true (by omega)).symm
          · have hr1 := hsm (i - b.per.toNat) (by omega); have hp1 := hpb (i - b.per.toNat) (by omega)
            refine GT_st_g rfl rfl rfl rfl rfl rfl rfl (V_move rfl rfl) ?_
            refine GT_st_g rfl rfl rfl rfl rfl rfl rfl (V_move rfl rfl) ?_
            refine GT_st_g rfl rfl rfl rfl rfl rfl rfl (V_move rfl rfl) ?_
            refine GT_st_g rfl rfl rfl rfl rfl rfl rfl (V_sub rfl rfl rfl (wrap_i64 (by omega))) ?_
            refine GT_st_g rfl rfl rfl rfl rfl rfl rfl (V_index rfl rfl rfl Try.underlying25 sz_2 (k := i - b.per.toNat) (by omega) (by omega) (hr.isSome (k := i) (by omega))) ?_
            refine GT_st_g rfl rfl rfl rfl rfl rfl rfl (V_load rfl rfl ag_2 (hr.at0 noM (by omega) rfl)) ?_
            refine GT_st_g rfl rfl rfl rfl rfl rfl rfl (V_move rfl rfl) ?_
            refine GT_st_g rfl rfl rfl rfl rfl rfl rfl (V_move rfl rfl) ?_
            refine GT_st_g rfl rfl rfl rfl rfl rfl rfl (V_move rfl rfl) ?_
            refine GT_st_g rfl rfl rfl rfl rfl rfl rfl (V_sub rfl rfl rfl (wrap_i64 (by omega))) ?_
            refine GT_st_g rfl rfl rfl rfl rfl rfl rfl (V_index rfl rfl rfl Try.underlying24 sz_39 (k := i - b.per.toNat) (by omega) (by omega) (hp.isSome hi)) ?_
            first | refine GT_st_g rfl rfl rfl rfl rfl rfl rfl (V_field rfl rfl fo_39_0) ?_ | refine GT_st_g rfl rfl rfl rfl rfl rfl rfl (V_fieldA rfl rfl fo_39_0) ?_
            refine GT_st_g rfl rfl rfl rfl rfl rfl rfl (V_load rfl rfl ag_2 (hp.at0 noM (by omega) rfl)) ?_
            refine GT_st_g rfl rfl rfl rfl rfl rfl rfl (V_add rfl rfl rfl (wrap_i64 (by omega))) ?_
            refine GT_st_g rfl rfl rfl rfl rfl rfl rfl (V_move rfl rfl) ?_
            refine GT_st_g rfl rfl rfl rfl rfl rfl rfl (V_move rfl rfl) ?_
            refine GT_st_g rfl rfl rfl rfl rfl rfl rfl (V_index rfl rfl rfl Try.underlying25 sz_2 (k := i) rfl hi (hr.isSome (k := i) (by omega))) ?_
            refine GT_st_g rfl rfl rfl rfl rfl rfl rfl (V_load rfl rfl ag_2 (hr.at0 noM (by omega) rfl)) ?_
            refine GT_st_g rfl rfl rfl rfl rfl rfl rfl (V_move rfl rfl) ?_
            refine GT_st_g rfl rfl rfl rfl rfl rfl rfl (V_move rfl rfl) ?_
            refine GT_st_g rfl rfl rfl rfl rfl rfl rfl (V_index rfl rfl rfl Try.underlying24 sz_39 (k := i) rfl hi (hp.isSome hi)) ?_
            first | refine GT_st_g rfl rfl rfl rfl rfl rfl rfl (V_field rfl rfl fo_39_1) ?_ | refine GT_st_g rfl rfl rfl rfl rfl rfl rfl (V_fieldA rfl rfl fo_39_1) ?_
            refine GT_st_g rfl rfl rfl rfl rfl rfl rfl (V_load rfl rfl ag_2 (hp.at1 noM hi rfl)) ?_
            refine GT_st_g rfl rfl rfl rfl rfl rfl rfl (V_add rfl rfl rfl (wrap_i64 (by omega))) ?_
            refine GT_st_g rfl rfl rfl rfl rfl rfl rfl (V_sub rfl rfl rfl (wrap_i64 (by omega))) ?_
            first | refine GT_st_g rfl rfl rfl rfl rfl rfl rfl (V_field rfl rfl fo_23_3) ?_ | refine GT_st_g rfl rfl rfl rfl rfl rfl rfl (V_fieldA rfl rfl fo_23_3) ?_
            refine GT_st_g rfl rfl rfl rfl rfl rfl rfl (V_load rfl rfl ag_2 (CellAt.item rfl)) ?_
            refine GT_st_g rfl rfl rfl rfl rfl rfl rfl (V_geq rfl rfl rfl) ?_
            refine GT_st rfl rfl rfl rfl (V_pick_f rfl rfl rfl) ?_
            refine GT_st rfl rfl rfl rfl (V_assign rfl rfl) ?_
            refine GT_nil ?_
            refine GE_ret Try.func48 rfl (fun w hw => ⟨?_, hw.nil⟩)
            unfold kept; (repeat' split) <;> first | (exfalso; omega) | exact congrArg Value.bool (decide_eq_decide.2 (by omega)) | exact congrArg Value.bool (decide_eq_true (by omega)).symm
end Go.Proofs.Ytacmnmcaeflflaa
