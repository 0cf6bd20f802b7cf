/- How much of a groove fits: the lathe's and the reference's, and LatheEnds and LathePrefix, walked. -/
import Derived.Test.YtacmnmcaeflflaaSxA
import Derived.Test.YtacmnmcaeflflaaLaD
import Derived.Test.YtacmnmcaeflflaaLaM
namespace Go.Proofs.Ytacmnmcaeflflaa
open Go.Sx Go.Proofs

theorem take_len {l : List Pt} {k : Nat} (h : k ≤ l.length) : (l.take k).length = k := by rw [List.length_take]; omega

theorem outE_iff {b : Blank} {l : List Pt} (he : both b l = 0) : ¬ outE b l = 0 ↔ outer b l = none := by
  constructor
  · exact fun h => (outE_ne he h).1
  · intro h; rw [(outE_none he h).1]; decide
theorem CellsAt.blk {C : Cx} {H : Items} {g : Nat} {cs : List Value} {t : TypeId} (h : BlkAt C.w0 g cs t) (hM : ¬ C.M g) : CellsAt C H ⟨g, 0, none⟩ cs := by
  intro i v hi
  rw [add_lit]
  exact CellAt.old (by simpa using h.cell hi) hM

theorem C_Fits1 {b : Blank} {A : Option Addr} {l : List Pt} {c g2 g3 i : Nat} {w : World} (h2 : BlkAt w g2 b.cells 23) (h3 : BlkAt w g3 [.slice A l.length c] 24) (hp : RdL w 2 ePt A l) (hc : l.length ≤ c) (hl : l.length ≤ 4096) (hi : i < l.length) :
    Con0 Try.prog 54 [I i, ptr g2 0, ptr g3 0] w (.bool (decide (¬ outE b (l.take (i + 1)) = 0))) := by
  have e1 := take_len (l := l) (k := i + 1) (by omega)
  refine Ret_of (vs := [_, _, _]) hm none' Try.func54 rfl Try.ntmps54 rfl ?_
  dsimp only [slotsOf]
  refine GE_seq ?_
  refine GE_plain (.st 0 .nil) rfl ?_
  refine GT_st rfl rfl rfl rfl (V_assign rfl rfl) ?_
  refine GT_nil ?_
  refine GE_seq ?_
  refine GE_drawn (.st 0 (.st 1 (.st 2 (.st 3 (.st 4 (.ld 5 [1, 2, 3] (.st 6 (.st 7 (.st 8 (.st 9 (.st 10 .nil))))))))))) [5] (by decide +kernel) ?_
  first | refine GT_st rfl rfl rfl rfl (V_loadN (vs := [_, _, _, _, _, _]) rfl rfl ag_23 sz_23 rfl (CellsAt.item rfl)) ?_ | refine GT_st rfl rfl rfl rfl (V_loadN (vs := [_, _, _, _, _, _]) rfl rfl ag_23 sz_23 rfl (CellsAt.blk h2 (fun e => e))) ?_
  first | refine GT_st rfl rfl rfl rfl (V_load rfl rfl ag_24 (CellAt.item rfl)) ?_ | refine GT_st rfl rfl rfl rfl (V_load rfl rfl ag_24 (CellAt.old (h3.cell rfl) (noM _))) ?_
  refine GT_st rfl rfl rfl rfl (V_move rfl rfl) ?_
  refine GT_st rfl rfl rfl rfl (V_add rfl rfl rfl (wrap_i64 (by omega))) ?_
  refine GT_st rfl rfl rfl rfl (V_sliceTo rfl rfl rfl Try.underlying24 (by rw [sz_39]; rfl) (h := i + 1) (by omega)) ?_
  refine GT_call rfl rfl rfl rfl rfl rfl rfl rfl rn_17 (fun w hw => (by have := C_lathe_Outermost (b := b) (l := l.take (i + 1)) (c := c) ((hp.take _).sh hw); rw [e1] at this; exact this)) (fun _ _ => GR_cons rfl rfl rfl rfl ((by first | exact V_load rfl rfl ag_24 (CellAt.item rfl) | exact V_load rfl rfl ag_24 (CellAt.old (h3.cell rfl) (noM _)))) (GR_cons rfl rfl rfl rfl (V_move rfl rfl) (GR_cons rfl rfl rfl rfl (V_add rfl rfl rfl (wrap_i64 (by omega))) (GR_nil)))) (fun y hy => ?_)
  refine GT_st rfl rfl rfl rfl (V_move rfl rfl) ?_
  refine GT_st rfl rfl rfl rfl (V_extract rfl rfl rfl) ?_
  refine GT_st rfl rfl rfl rfl (V_extract rfl rfl rfl) ?_
  refine GT_st rfl rfl rfl rfl (V_assign rfl rfl) ?_
  refine GT_st rfl rfl rfl rfl (V_assign rfl rfl) ?_
  refine GT_nil ?_
  refine GE_seq ?_
  refine GE_slots (L' := [(6, _)]) ⟨rfl, trivial⟩ ?_
  refine GE_plain (.st 0 (.st 1 (.st 2 .nil))) rfl ?_
  refine GT_st rfl rfl rfl rfl (V_move rfl rfl) ?_
  refine GT_st rfl rfl rfl rfl (V_neq rfl rfl rfl) ?_
  refine GT_st rfl rfl rfl rfl (V_assign rfl rfl) ?_
  refine GT_nil ?_
  refine GE_ret Try.func54 rfl (fun w hw => ⟨?_, hw.nil⟩)
  rfl

theorem C_Search {b : Blank} {A : Option Addr} {l : List Pt} {c g2 g3 : Nat} {w : World} (h2 : BlkAt w g2 b.cells 23) (h3 : BlkAt w g3 [.slice A l.length c] 24) (hp : RdL w 2 ePt A l) (hc : l.length ≤ c) (he : both b l = 0) :
    Con Try.prog 53 [I l.length, .func (.func 54) #[] #[ptr g2 0, ptr g3 0]] w (fun k : Nat => IsFit b l k) (fun k => I k) (fun _ => []) := by
  obtain ⟨hb, hl, hpt⟩ := both_zero.1 he
  refine Ret_of (vs := [_, _]) hm none' Try.func53 rfl Try.ntmps53 rfl ?_
  dsimp only [slotsOf]
  refine GE_seq ?_
  refine GE_plain (.st 0 .nil) rfl ?_
  refine GT_st rfl rfl rfl rfl (V_assign rfl rfl) ?_
  refine GT_nil ?_
  refine GE_seq ?_
  refine GE_plain (.st 0 (.st 1 (.st 2 .nil))) rfl ?_
  refine GT_st rfl rfl rfl rfl (V_move rfl rfl) ?_
  refine GT_st rfl rfl rfl rfl (V_assign rfl rfl) ?_
  refine GT_st rfl rfl rfl rfl (V_assign rfl rfl) ?_
  refine GT_nil ?_
  refine GE_seq ?_
  refine GE_block ?_
  refine GE_to (GE_loop (ι := Nat × Nat) (fun x => x.2 - x.1) (fun x => [(1, .func (.func 54) #[] #[ptr g2 0, ptr g3 0]), (5, I x.1), (6, I x.2)]) (fun x => []) (fun x => x.1 ≤ x.2 ∧ x.2 ≤ l.length ∧ (∀ i, i < x.1 → outer b (l.take (i + 1)) ≠ none) ∧ (x.2 < l.length → outer b (l.take (x.2 + 1)) = none)) ?_ (0, l.length) ?_) ⟨rfl, rfl, rfl, trivial⟩ HS.nil
  · rintro ⟨i, j⟩ ⟨hij, hj, hi, hjn⟩ ih; dsimp only at hij hj hi hjn ih ⊢
    refine GE_seq ?_
    refine GE_seq ?_
    refine GE_plain (.st 0 (.st 1 (.st 2 .nil))) rfl ?_
    refine GT_st rfl rfl rfl rfl (V_move rfl rfl) ?_
    refine GT_st rfl rfl rfl rfl (V_move rfl rfl) ?_
    refine GT_st rfl rfl rfl rfl (V_lss rfl rfl rfl) ?_
    refine GT_nil ?_
    first | refine GE_condNot rfl (fun h1 => ?_) (fun h1 => ?_) | refine GE_cond rfl (fun h1 => ?_) (fun h1 => ?_) | refine GE_condNotB rfl (fun h1 => ?_) (fun h1 => ?_) | refine GE_condB rfl (fun h1 => ?_) (fun h1 => ?_)
    · have hlt : i < j := (by omega); have hm1 : (i + j) / 2 < l.length := (by omega); have htk := take_both he ((i + j) / 2 + 1)
      refine GE_skip ?_
      refine GE_block ?_
      refine GE_seq ?_
      refine GE_plain (.st 0 (.st 1 (.st 2 (.st 3 (.st 4 (.st 5 (.st 6 .nil))))))) rfl ?_
      refine GT_st rfl rfl rfl rfl (V_move rfl rfl) ?_
      refine GT_st rfl rfl rfl rfl (V_move rfl rfl) ?_
      refine GT_st rfl rfl rfl rfl (V_add rfl rfl rfl (wrap_i64 (by omega))) ?_
      refine GT_st rfl rfl rfl rfl (V_convII rfl rfl (by rw [Try.underlying3]; rfl) Try.underlying109 (wrap_u64 (by omega))) ?_
      refine GT_st rfl rfl rfl rfl (V_shr (s := 1) (d := 2) rfl rfl rfl (by decide) (by decide)) ?_
      refine GT_st rfl rfl rfl rfl (V_convII rfl rfl (by rw [Try.underlying109]; rfl) Try.underlying3 (((wrap_i64 (by omega)).trans (show _ = (((i + j) / 2 : Nat) : Int) by omega)))) ?_
      refine GT_st rfl rfl rfl rfl (V_assign rfl rfl) ?_
      refine GT_nil ?_
      refine GE_seq ?_
      refine GE_slots (L' := [(1, _), (5, _), (6, _), (7, _)]) ⟨rfl, rfl, rfl, rfl, trivial⟩ ?_
      refine GE_plain (.st 0 (.st 1 (.ld 2 [] (.st 3 .nil)))) rfl ?_
      refine GT_st rfl rfl rfl rfl (V_move rfl rfl) ?_
      refine GT_st rfl rfl rfl rfl (V_move rfl rfl) ?_
      refine GT_call0 rfl rfl rfl rfl rfl rfl rfl rfl rn_54 (fun w hw => C_Fits1 (h2.sh hw) (h3.sh hw) (hp.sh hw) hc hl hm1) (GR_nil) ?_
      first | refine GT_st rfl rfl rfl rfl (V_not rfl rfl) ?_ | refine GT_st rfl rfl rfl rfl (V_notB rfl rfl) ?_
      refine GT_nil ?_
      first | refine GE_condNot rfl (fun h3' => ?_) (fun h3' => ?_) | refine GE_cond rfl (fun h3' => ?_) (fun h3' => ?_) | refine GE_condNotB rfl (fun h3' => ?_) (fun h3' => ?_) | refine GE_condB rfl (fun h3' => ?_) (fun h3' => ?_)
      · have hi2 : ∀ q, q < (i + j) / 2 + 1 → outer b (l.take (q + 1)) ≠ none := (fun q hq hn => h3' ((outE_iff htk).2 (by have := take_none he hn (show q + 1 ≤ (i + j) / 2 + 1 by omega); exact this)))
        refine GE_slots (L' := [(1, _), (6, _), (7, _)]) ⟨rfl, rfl, rfl, trivial⟩ ?_
        refine GE_plain (.st 0 (.st 1 (.st 2 .nil))) rfl ?_
        refine GT_st rfl rfl rfl rfl (V_move rfl rfl) ?_
        refine GT_st rfl rfl rfl rfl (V_add rfl rfl rfl (wrap_i64 (by omega))) ?_
        refine GT_st rfl rfl rfl rfl (V_assign rfl rfl) ?_
        refine GT_nil ?_
        refine GE_inBlock ?_
        first
          | exact GE_to (ih ((i + j) / 2 + 1, j) ⟨by dsimp only; omega, hj, hi2, hjn⟩ (by dsimp only; omega)) ⟨rfl, rfl, rfl, trivial⟩ HS.nil
          | exact GE_to (ih (i, (i + j) / 2) ⟨by dsimp only; omega, by dsimp only; omega, hi, hj2⟩ (by dsimp only; omega)) ⟨rfl, rfl, rfl, trivial⟩ HS.nil
      · have hj2 : (i + j) / 2 < l.length → outer b (l.take ((i + j) / 2 + 1)) = none := (fun _ => (outE_iff htk).1 h3')
        refine GE_slots (L' := [(1, _), (5, _), (7, _)]) ⟨rfl, rfl, rfl, trivial⟩ ?_
        refine GE_plain (.st 0 (.st 1 .nil)) rfl ?_
        refine GT_st rfl rfl rfl rfl (V_move rfl rfl) ?_
        refine GT_st rfl rfl rfl rfl (V_assign rfl rfl) ?_
        refine GT_nil ?_
        refine GE_inBlock ?_
        first
          | exact GE_to (ih ((i + j) / 2 + 1, j) ⟨by dsimp only; omega, hj, hi2, hjn⟩ (by dsimp only; omega)) ⟨rfl, rfl, rfl, trivial⟩ HS.nil
          | exact GE_to (ih (i, (i + j) / 2) ⟨by dsimp only; omega, by dsimp only; omega, hi, hj2⟩ (by dsimp only; omega)) ⟨rfl, rfl, rfl, trivial⟩ HS.nil
    · obtain rfl : i = j := (by omega)
      refine GE_exit rfl ?_
      refine GE_seq ?_
      refine GE_slots (L' := [(5, _)]) ⟨rfl, trivial⟩ ?_
      refine GE_plain (.st 0 (.st 1 .nil)) rfl ?_
      refine GT_st rfl rfl rfl rfl (V_move rfl rfl) ?_
      refine GT_st rfl rfl rfl rfl (V_assign rfl rfl) ?_
      refine GT_nil ?_
      refine GE_ret Try.func53 rfl (fun w hw => ⟨i, ⟨hj, hi, hjn⟩, rfl, hw.nil⟩)
      skip
  · exact ⟨Nat.zero_le _, Nat.le_refl _, fun i hi => absurd hi (Nat.not_lt_zero _), fun h => absurd h (Nat.lt_irrefl _)⟩

theorem C_lathe_Fits {b : Blank} {A : Option Addr} {l : List Pt} {c : Nat} {w : World} (hp : RdL w 2 ePt A l) (hc : l.length ≤ c) :
    Con Try.prog 27 [b.val, .slice A l.length c] w (fun k : Nat => (both b l = 0 → IsFit b l k) ∧ (both b l ≠ 0 → k = 0)) (fun k => .tuple #[I k, I (both b l)]) (fun _ => []) := by
  by_cases he : both b l = 0
  · rw [he]
    refine Ret_of (vs := [_, _]) hm none' Try.func27 rfl Try.ntmps27 rfl ?_
    dsimp only [slotsOf]
    refine GE_seq ?_
    refine GE_plain (.ld 0 [] (.ld 1 [] (.st 2 (.st 3 .nil)))) rfl ?_
    refine GT_box (z := [_, _, _, _, _, _]) rfl rfl rfl rfl rfl rfl rfl (fun _ => GR_nil) (fun b2 => ?_)
    refine GT_box (z := [_]) rfl rfl rfl rfl rfl rfl rfl (fun _ => GR_nil) (fun b3 => ?_)
    refine GT_st rfl rfl rfl rfl (V_assign rfl rfl) ?_
    refine GT_st rfl rfl rfl rfl (V_assign rfl rfl) ?_
    refine GT_nil ?_
    refine GE_seq ?_
    refine GE_seq ?_
    refine GE_slots (L' := [(2, _), (3, _)]) ⟨rfl, rfl, trivial⟩ ?_
    refine GE_plain (.st 0 (.st 1 (.ld 2 [] (.st 3 (.st 4 (.st 5 (.st 6 (.st 7 .nil)))))))) rfl ?_
    refine GT_st rfl rfl rfl rfl (V_loadN (vs := [_, _, _, _, _, _]) rfl rfl ag_23 sz_23 rfl (CellsAt.item rfl)) ?_
    refine GT_st rfl rfl rfl rfl (V_load rfl rfl ag_24 (CellAt.item rfl)) ?_
    refine GT_call rfl rfl rfl rfl rfl rfl rfl rfl rn_38 (fun w hw => C_lathe_newSide_ok (hp.sh hw) he) (fun _ _ => GR_nil) (fun bs _ => ?_)
    refine GT_st rfl rfl rfl rfl (V_move rfl rfl) ?_
    refine GT_st rfl rfl rfl rfl (V_extract rfl rfl rfl) ?_
    refine GT_st rfl rfl rfl rfl (V_extract rfl rfl rfl) ?_
    refine GT_st rfl rfl rfl rfl (V_assign rfl rfl) ?_
    refine GT_st rfl rfl rfl rfl (V_assign rfl rfl) ?_
    refine GT_nil ?_
    refine GE_seq ?_
    refine GE_slots (L' := [(2, _), (3, _), (7, _)]) ⟨rfl, rfl, rfl, trivial⟩ ?_
    refine GE_plain (.st 0 (.st 1 .nil)) rfl ?_
    refine GT_st rfl rfl rfl rfl (V_move rfl rfl) ?_
    refine GT_st rfl rfl rfl rfl (V_neq rfl rfl rfl) ?_
    refine GT_nil ?_
    first | refine GE_condNot rfl (fun h1 => ?_) (fun h1 => ?_) | refine GE_cond rfl (fun h1 => ?_) (fun h1 => ?_) | refine GE_condNotB rfl (fun h1 => ?_) (fun h1 => ?_) | refine GE_condB rfl (fun h1 => ?_) (fun h1 => ?_)
    · exact absurd rfl h1
    · skip
      refine GE_skip ?_
      refine GE_seq ?_
      refine GE_plain (.st 0 (.st 1 (.st 2 (.ld 3 [] (.st 4 (.st 5 .nil)))))) rfl ?_
      refine GT_st rfl rfl rfl rfl (V_load rfl rfl ag_24 (CellAt.item rfl)) ?_
      refine GT_st rfl rfl rfl rfl (V_len rfl Try.underlying24 rfl) ?_
      refine GT_st rfl rfl rfl rfl (V_makeFunc rfl rfl rfl) ?_
      refine GT_call rfl rfl rfl rfl rfl rfl rfl rfl rn_53 (fun w hw => C_Search (BlkAt.of hw) (BlkAt.of hw) (hp.sh hw) hc he) (fun _ _ => GR_nil) (fun k hk => ?_)
      refine GT_st rfl rfl rfl rfl (V_assign rfl rfl) ?_
      refine GT_st rfl rfl rfl rfl (V_assign rfl rfl) ?_
      refine GT_nil ?_
      refine GE_ret Try.func27 ⟨_, _, rfl, rfl, rfl⟩ (fun w hw => ⟨k, ⟨fun _ => hk, fun h => absurd rfl h⟩, rfl, hw.nil⟩)
      skip
  · skip
    refine Ret_of (vs := [_, _]) hm none' Try.func27 rfl Try.ntmps27 rfl ?_
    dsimp only [slotsOf]
    refine GE_seq ?_
    refine GE_plain (.ld 0 [] (.ld 1 [] (.st 2 (.st 3 .nil)))) rfl ?_
    refine GT_box (z := [_, _, _, _, _, _]) rfl rfl rfl rfl rfl rfl rfl (fun _ => GR_nil) (fun b2 => ?_)
    refine GT_box (z := [_]) rfl rfl rfl rfl rfl rfl rfl (fun _ => GR_nil) (fun b3 => ?_)
    refine GT_st rfl rfl rfl rfl (V_assign rfl rfl) ?_
    refine GT_st rfl rfl rfl rfl (V_assign rfl rfl) ?_
    refine GT_nil ?_
    refine GE_seq ?_
    refine GE_seq ?_
    refine GE_slots (L' := [(2, _), (3, _)]) ⟨rfl, rfl, trivial⟩ ?_
    refine GE_plain (.st 0 (.st 1 (.ld 2 [] (.st 3 (.st 4 (.st 5 (.st 6 (.st 7 .nil)))))))) rfl ?_
    refine GT_st rfl rfl rfl rfl (V_loadN (vs := [_, _, _, _, _, _]) rfl rfl ag_23 sz_23 rfl (CellsAt.item rfl)) ?_
    refine GT_st rfl rfl rfl rfl (V_load rfl rfl ag_24 (CellAt.item rfl)) ?_
    refine GT_call0 rfl rfl rfl rfl rfl rfl rfl rfl rn_38 (fun w hw => C_lathe_newSide_err (hp.sh hw) he) (GR_nil) ?_
    refine GT_st rfl rfl rfl rfl (V_move rfl rfl) ?_
    refine GT_st rfl rfl rfl rfl (V_extract rfl rfl rfl) ?_
    refine GT_st rfl rfl rfl rfl (V_extract rfl rfl rfl) ?_
    refine GT_st rfl rfl rfl rfl (V_assign rfl rfl) ?_
    refine GT_st rfl rfl rfl rfl (V_assign rfl rfl) ?_
    refine GT_nil ?_
    refine GE_seq ?_
    refine GE_slots (L' := [(2, _), (3, _), (7, _)]) ⟨rfl, rfl, rfl, trivial⟩ ?_
    refine GE_plain (.st 0 (.st 1 .nil)) rfl ?_
    refine GT_st rfl rfl rfl rfl (V_move rfl rfl) ?_
    refine GT_st rfl rfl rfl rfl (V_neq rfl rfl rfl) ?_
    refine GT_nil ?_
    first | refine GE_condNot rfl (fun h1 => ?_) (fun h1 => ?_) | refine GE_cond rfl (fun h1 => ?_) (fun h1 => ?_) | refine GE_condNotB rfl (fun h1 => ?_) (fun h1 => ?_) | refine GE_condB rfl (fun h1 => ?_) (fun h1 => ?_)
    · skip
      refine GE_seq ?_
      refine GE_slots (L' := [(7, _)]) ⟨rfl, trivial⟩ ?_
      refine GE_plain (.st 0 (.st 1 (.st 2 .nil))) rfl ?_
      refine GT_st rfl rfl rfl rfl (V_move rfl rfl) ?_
      refine GT_st rfl rfl rfl rfl (V_assign rfl rfl) ?_
      refine GT_st rfl rfl rfl rfl (V_assign rfl rfl) ?_
      refine GT_nil ?_
      refine GE_ret Try.func27 ⟨_, _, rfl, rfl, rfl⟩ (fun w hw => ⟨0, ⟨fun h => absurd h he, fun _ => rfl⟩, rfl, hw.nil⟩)
      skip
    · exact absurd h1 he

theorem C_ref05_Fits {b : Blank} {A : Option Addr} {l : List Pt} {c : Nat} {w : World} (hp : RdL w 2 ePt A l) (hc : l.length ≤ c) :
    Con Try.prog 28 [b.val, .slice A l.length c] w (fun k : Nat => (both b l = 0 → IsFit b l k) ∧ (both b l ≠ 0 → k = 0)) (fun k => .tuple #[I k, I (both b l)]) (fun _ => []) := by
  by_cases he : both b l = 0
  · obtain ⟨hb, hl, hpt⟩ := both_zero.1 he
    refine Ret_of (vs := [_, _]) hm none' Try.func28 rfl Try.ntmps28 rfl ?_
    dsimp only [slotsOf]
    refine GE_seq ?_
    refine GE_plain (.ld 0 [] (.st 1 (.st 2 .nil))) rfl ?_
    refine GT_box (z := [_, _, _, _, _, _]) rfl rfl rfl rfl rfl rfl rfl (fun _ => GR_nil) (fun b2 => ?_)
    refine GT_st rfl rfl rfl rfl (V_assign rfl rfl) ?_
    refine GT_st rfl rfl rfl rfl (V_assign rfl rfl) ?_
    refine GT_nil ?_
    refine GE_seq ?_
    refine GE_seq ?_
    refine GE_plain (.st 0 (.st 1 (.ld 2 [] (.st 3 .nil)))) rfl ?_
    refine GT_st rfl rfl rfl rfl (V_loadN (vs := [_, _, _, _, _, _]) rfl rfl ag_23 sz_23 rfl (CellsAt.item rfl)) ?_
    refine GT_st rfl rfl rfl rfl (V_move rfl rfl) ?_
    refine GT_call0 rfl rfl rfl rfl rfl rfl rfl rfl rn_40 (fun w hw => C_ref05_both (hp.sh hw)) (GR_nil) ?_
    refine GT_st rfl rfl rfl rfl (V_neq rfl rfl rfl) ?_
    refine GT_nil ?_
    first | refine GE_condNot rfl (fun h1 => ?_) (fun h1 => ?_) | refine GE_cond rfl (fun h1 => ?_) (fun h1 => ?_) | refine GE_condNotB rfl (fun h1 => ?_) (fun h1 => ?_) | refine GE_condB rfl (fun h1 => ?_) (fun h1 => ?_)
    · exact absurd he h1
    · skip
      refine GE_skip ?_
      refine GE_seq ?_
      refine GE_slots (L' := [(1, _), (2, _)]) ⟨rfl, rfl, trivial⟩ ?_
      refine GE_plain (.st 0 .nil) rfl ?_
      refine GT_st rfl rfl rfl rfl (V_assign rfl rfl) ?_
      refine GT_nil ?_
      refine GE_cut (ι := Nat) (fun k => [(6, I k)]) (fun k => []) (fun k => IsFit b l k) ?_ (fun hk0 => ?_)
      · intro k hk
        refine GE_seq ?_
        refine GE_plain (.st 0 (.st 1 (.st 2 .nil))) rfl ?_
        refine GT_st rfl rfl rfl rfl (V_move rfl rfl) ?_
        refine GT_st rfl rfl rfl rfl (V_assign rfl rfl) ?_
        refine GT_st rfl rfl rfl rfl (V_assign rfl rfl) ?_
        refine GT_nil ?_
        refine GE_ret Try.func28 ⟨_, _, rfl, rfl, rfl⟩ (fun w hw => ?_)
        exact ⟨k, ⟨fun _ => hk, fun h => absurd he h⟩, by rw [he], hw.nil⟩
      · skip
        refine GE_block ?_
        refine GE_to (GE_loop (ι := Nat) (fun k => l.length - k) (fun k => [(1, .slice A l.length c), (2, ptr b2 0), (6, I k)]) (fun k => [(b2, blk b.cells 23)]) (fun k => k ≤ l.length ∧ ∀ i, i < k → outer b (l.take (i + 1)) ≠ none) ?_ 0 ?_) ⟨rfl, rfl, rfl, trivial⟩ (HS.cons rfl HS.nil)
        · rintro k ⟨hkn, hall⟩ ih
          refine GE_seq ?_
          refine GE_seq ?_
          refine GE_plain (.st 0 (.st 1 (.st 2 (.st 3 .nil)))) rfl ?_
          refine GT_st rfl rfl rfl rfl (V_move rfl rfl) ?_
          refine GT_st rfl rfl rfl rfl (V_move rfl rfl) ?_
          refine GT_st rfl rfl rfl rfl (V_len rfl Try.underlying24 rfl) ?_
          refine GT_st rfl rfl rfl rfl (V_lss rfl rfl rfl) ?_
          refine GT_nil ?_
          first | refine GE_condNot rfl (fun h2 => ?_) (fun h2 => ?_) | refine GE_cond rfl (fun h2 => ?_) (fun h2 => ?_) | refine GE_condNotB rfl (fun h2 => ?_) (fun h2 => ?_) | refine GE_condB rfl (fun h2 => ?_) (fun h2 => ?_)
          · have hkl : k < l.length := (by omega); have e1 := take_len (l := l) (k := k + 1) (by omega)
            refine GE_skip ?_
            refine GE_block ?_
            refine GE_seq ?_
            refine GE_slots (L' := [(1, _), (2, _), (6, _)]) ⟨rfl, rfl, rfl, trivial⟩ ?_
            refine GE_drawn (.st 0 (.st 1 (.st 2 (.st 3 (.st 4 (.ld 5 [1, 2, 3] (.st 6 (.st 7 (.st 8 (.st 9 (.st 10 .nil))))))))))) [5] (by decide +kernel) ?_
            refine GT_st rfl rfl rfl rfl (V_loadN (vs := [_, _, _, _, _, _]) rfl rfl ag_23 sz_23 rfl (CellsAt.item rfl)) ?_
            refine GT_st rfl rfl rfl rfl (V_move rfl rfl) ?_
            refine GT_st rfl rfl rfl rfl (V_move rfl rfl) ?_
            refine GT_st rfl rfl rfl rfl (V_add rfl rfl rfl (wrap_i64 (by omega))) ?_
            refine GT_st rfl rfl rfl rfl (V_sliceTo rfl rfl rfl Try.underlying24 (by rw [sz_39]; rfl) (h := k + 1) (by omega)) ?_
            refine GT_call rfl rfl rfl rfl rfl rfl rfl rfl rn_41 (fun w hw => (by have := C_ref05_outermost (b := b) (l := l.take (k + 1)) (c := c) ((hp.take _).sh hw) (take_both he _); rw [e1] at this; exact this)) (fun _ _ => GR_cons rfl rfl rfl rfl (V_move rfl rfl) (GR_cons rfl rfl rfl rfl (V_move rfl rfl) (GR_cons rfl rfl rfl rfl (V_add rfl rfl rfl (wrap_i64 (by omega))) (GR_nil)))) (fun y hy => ?_)
            refine GT_st rfl rfl rfl rfl (V_move rfl rfl) ?_
            refine GT_st rfl rfl rfl rfl (V_extract rfl rfl rfl) ?_
            refine GT_st rfl rfl rfl rfl (V_extract rfl rfl rfl) ?_
            refine GT_st rfl rfl rfl rfl (V_assign rfl rfl) ?_
            refine GT_st rfl rfl rfl rfl (V_assign rfl rfl) ?_
            refine GT_nil ?_
            refine GE_seq ?_
            refine GE_seq ?_
            refine GE_slots (L' := [(1, _), (2, _), (6, _), (8, _)]) ⟨rfl, rfl, rfl, rfl, trivial⟩ ?_
            refine GE_plain (.st 0 (.st 1 .nil)) rfl ?_
            refine GT_st rfl rfl rfl rfl (V_move rfl rfl) ?_
            first | refine GT_st rfl rfl rfl rfl (V_not rfl rfl) ?_ | refine GT_st rfl rfl rfl rfl (V_notB rfl rfl) ?_
            refine GT_nil ?_
            first | refine GE_condNot rfl (fun h3 => ?_) (fun h3 => ?_) | refine GE_cond rfl (fun h3 => ?_) (fun h3 => ?_) | refine GE_condNotB rfl (fun h3 => ?_) (fun h3 => ?_) | refine GE_condB rfl (fun h3 => ?_) (fun h3 => ?_)
            · have hno : k < l.length → outer b (l.take (k + 1)) = none := (fun _ => by cases ho : outer b (l.take (k + 1)) with | none => rfl | some R => rw [ho] at h3; cases h3)
              refine GE_exit rfl ?_
              exact GE_to (hk0 k ⟨hkn, hall, hno⟩) ⟨rfl, trivial⟩ HS.nil
            · have hok : outer b (l.take (k + 1)) ≠ none := (fun ho => by rw [ho] at h3; cases h3)
              refine GE_skip ?_
              refine GE_plain (.st 0 (.st 1 (.ld 2 [] .nil))) rfl ?_
              refine GT_st rfl rfl rfl rfl (V_move rfl rfl) ?_
              refine GT_st rfl rfl rfl rfl (V_add rfl rfl rfl (wrap_i64 (by omega))) ?_
              refine GT_ldv rfl rfl rfl rfl rfl (V_assign rfl rfl) (GR_nil) ?_
              refine GT_nil ?_
              refine GE_inBlock ?_
              exact GE_to (ih (k + 1) ⟨by omega, fun i hi => by rcases Nat.lt_or_ge i k with h | h; exact hall i h; obtain rfl : i = k := (by omega); exact hok⟩ (by omega)) ⟨rfl, rfl, rfl, trivial⟩ (HS.cons rfl HS.nil)
          · have hno : k < l.length → outer b (l.take (k + 1)) = none := (fun h => by omega)
            refine GE_exit rfl ?_
            exact GE_to (hk0 k ⟨hkn, hall, hno⟩) ⟨rfl, trivial⟩ HS.nil
        · exact ⟨Nat.zero_le _, fun i hi => absurd hi (Nat.not_lt_zero _)⟩
  · skip
    refine Ret_of (vs := [_, _]) hm none' Try.func28 rfl Try.ntmps28 rfl ?_
    dsimp only [slotsOf]
    refine GE_seq ?_
    refine GE_plain (.ld 0 [] (.st 1 (.st 2 .nil))) rfl ?_
    refine GT_box (z := [_, _, _, _, _, _]) rfl rfl rfl rfl rfl rfl rfl (fun _ => GR_nil) (fun b2 => ?_)
    refine GT_st rfl rfl rfl rfl (V_assign rfl rfl) ?_
    refine GT_st rfl rfl rfl rfl (V_assign rfl rfl) ?_
    refine GT_nil ?_
    refine GE_seq ?_
    refine GE_seq ?_
    refine GE_plain (.st 0 (.st 1 (.ld 2 [] (.st 3 .nil)))) rfl ?_
    refine GT_st rfl rfl rfl rfl (V_loadN (vs := [_, _, _, _, _, _]) rfl rfl ag_23 sz_23 rfl (CellsAt.item rfl)) ?_
    refine GT_st rfl rfl rfl rfl (V_move rfl rfl) ?_
    refine GT_call0 rfl rfl rfl rfl rfl rfl rfl rfl rn_40 (fun w hw => C_ref05_both (hp.sh hw)) (GR_nil) ?_
    refine GT_st rfl rfl rfl rfl (V_neq rfl rfl rfl) ?_
    refine GT_nil ?_
    first | refine GE_condNot rfl (fun h1 => ?_) (fun h1 => ?_) | refine GE_cond rfl (fun h1 => ?_) (fun h1 => ?_) | refine GE_condNotB rfl (fun h1 => ?_) (fun h1 => ?_) | refine GE_condB rfl (fun h1 => ?_) (fun h1 => ?_)
    · skip
      refine GE_seq ?_
      refine GE_slots (L' := [(1, _), (2, _)]) ⟨rfl, rfl, trivial⟩ ?_
      refine GE_plain (.st 0 (.st 1 (.ld 2 [] (.st 3 (.st 4 .nil))))) rfl ?_
      refine GT_st rfl rfl rfl rfl (V_loadN (vs := [_, _, _, _, _, _]) rfl rfl ag_23 sz_23 rfl (CellsAt.item rfl)) ?_
      refine GT_st rfl rfl rfl rfl (V_move rfl rfl) ?_
      refine GT_call0 rfl rfl rfl rfl rfl rfl rfl rfl rn_40 (fun w hw => C_ref05_both (hp.sh hw)) (GR_nil) ?_
      refine GT_st rfl rfl rfl rfl (V_assign rfl rfl) ?_
      refine GT_st rfl rfl rfl rfl (V_assign rfl rfl) ?_
      refine GT_nil ?_
      refine GE_ret Try.func28 ⟨_, _, rfl, rfl, rfl⟩ (fun w hw => ⟨0, ⟨fun h => absurd h he, fun _ => rfl⟩, rfl, hw.nil⟩)
      skip
    · exact absurd h1 he

theorem fits_same {b : Blank} {l : List Pt} {k k' : Nat} (h : (both b l = 0 → IsFit b l k) ∧ (both b l ≠ 0 → k = 0)) (h' : (both b l = 0 → IsFit b l k') ∧ (both b l ≠ 0 → k' = 0)) : k = k' := by
  by_cases he : both b l = 0
  · exact (h.1 he).unique (h'.1 he)
  · rw [h.2 he, h'.2 he]

theorem L_LatheEnds {b : Blank} {A A2 : Option Addr} {l : List Pt} {r : List Int} {c c2 : Nat} {h : Int} {w : World} (hp : RdL w 2 ePt A l) (hxp : l.length ≤ c ∧ c ≤ maxLen ∧ ∀ x ∈ l, PtWf x) (hr : RdL w 1 eI A2 r) (_ : r.length ≤ c2 ∧ c2 ≤ maxLen ∧ ∀ x ∈ r, I64 x) (_ : (Lit.int .i64 h).wf = true) :
    Con0 Try.prog 8 [b.val, .slice A l.length c, .slice A2 r.length c2, I h] w (.bool true) := by
  have hc := hxp.1
  refine Ret_of (vs := [_, _, _, _]) hm none' Try.func8 rfl Try.ntmps8 rfl ?_
  dsimp only [slotsOf]
  refine GE_seq ?_
  refine GE_plain (.ld 0 [] (.st 1 .nil)) rfl ?_
  refine GT_box (z := [_, _, _, _, _, _]) rfl rfl rfl rfl rfl rfl rfl (fun _ => GR_nil) (fun b4 => ?_)
  refine GT_st rfl rfl rfl rfl (V_assign rfl rfl) ?_
  refine GT_nil ?_
  refine GE_seq ?_
  refine GE_seq ?_
  refine GE_plain (.st 0 (.st 1 (.ld 2 [] (.st 3 (.st 4 (.st 5 (.ld 6 [] (.st 7 .nil)))))))) rfl ?_
  refine GT_st rfl rfl rfl rfl (V_move rfl rfl) ?_
  refine GT_st rfl rfl rfl rfl (V_len rfl Try.underlying24 rfl) ?_
  refine GT_call0 rfl rfl rfl rfl rfl rfl rfl rfl rn_15 (fun w hw => C_law05_long (n := l.length)) (GR_nil) ?_
  refine GT_st rfl rfl rfl rfl (V_move rfl rfl) ?_
  first | refine GT_splitNot (d := 20) rfl (fun h1 => ?_) (fun h1 => ?_) | refine GT_split (d := 20) rfl (fun h1 => ?_) (fun h1 => ?_) | refine GT_splitNotB (d := 20) rfl (fun h1 => ?_) (fun h1 => ?_) | refine GT_splitB (d := 20) rfl (fun h1 => ?_) (fun h1 => ?_)
  · skip
    refine GT_skip rfl rfl rfl rfl rfl (by decide) rfl rfl ?_
    refine GT_skip rfl rfl rfl rfl rfl (by decide) rfl rfl ?_
    refine GT_skip_ld rfl rfl rfl rfl rfl (by decide) rfl rfl rfl (GR_nil) ?_
    refine GT_st rfl rfl rfl rfl (V_pick_t rfl rfl rfl) ?_
    refine GT_nil ?_
    refine GE_cond_t rfl ?_
    refine GE_seq ?_
    refine GE_slots (L' := []) trivial ?_
    refine GE_plain (.ld 0 [] (.st 1 .nil)) rfl ?_
    refine GT_call0 rfl rfl rfl rfl rfl rfl rfl rfl rn_16 (fun w hw => C_law05_Works) (GR_nil) ?_
    refine GT_st rfl rfl rfl rfl (V_assign rfl rfl) ?_
    refine GT_nil ?_
    refine GE_ret Try.func8 rfl (fun w hw => ⟨?_, hw.nil⟩)
    rfl
  · skip
    refine GT_st_g rfl rfl rfl rfl rfl rfl rfl (V_move rfl rfl) ?_
    refine GT_st_g rfl rfl rfl rfl rfl rfl rfl (V_len rfl Try.underlying25 rfl) ?_
    refine GT_call0_g rfl rfl rfl rfl rfl rfl rfl rfl rfl rfl rfl rn_15 (fun w hw => C_law05_long (n := r.length)) (GR_nil) ?_
    refine GT_st rfl rfl rfl rfl (V_pick_f rfl rfl rfl) ?_
    refine GT_nil ?_
    first | refine GE_condNot rfl (fun h2 => ?_) (fun h2 => ?_) | refine GE_cond rfl (fun h2 => ?_) (fun h2 => ?_) | refine GE_condNotB rfl (fun h2 => ?_) (fun h2 => ?_) | refine GE_condB rfl (fun h2 => ?_) (fun h2 => ?_)
    · skip
      refine GE_seq ?_
      refine GE_slots (L' := []) trivial ?_
      refine GE_plain (.ld 0 [] (.st 1 .nil)) rfl ?_
      refine GT_call0 rfl rfl rfl rfl rfl rfl rfl rfl rn_16 (fun w hw => C_law05_Works) (GR_nil) ?_
      refine GT_st rfl rfl rfl rfl (V_assign rfl rfl) ?_
      refine GT_nil ?_
      refine GE_ret Try.func8 rfl (fun w hw => ⟨?_, hw.nil⟩)
      rfl
    · have hlr := longB_false h2
      refine GE_skip ?_
      refine GE_seq ?_
      refine GE_slots (L' := [(1, _), (2, _), (3, _), (4, _)]) ⟨rfl, rfl, rfl, rfl, trivial⟩ ?_
      refine GE_plain (.st 0 (.st 1 (.ld 2 [] (.st 3 (.st 4 (.st 5 (.st 6 (.st 7 .nil)))))))) rfl ?_
      refine GT_st rfl rfl rfl rfl (V_loadN (vs := [_, _, _, _, _, _]) rfl rfl ag_23 sz_23 rfl (CellsAt.item rfl)) ?_
      refine GT_st rfl rfl rfl rfl (V_move rfl rfl) ?_
      refine GT_call rfl rfl rfl rfl rfl rfl rfl rfl rn_27 (fun w hw => C_lathe_Fits (hp.sh hw) hc) (fun _ _ => GR_nil) (fun k hk => ?_)
      refine GT_st rfl rfl rfl rfl (V_move rfl rfl) ?_
      refine GT_st rfl rfl rfl rfl (V_extract rfl rfl rfl) ?_
      refine GT_st rfl rfl rfl rfl (V_extract rfl rfl rfl) ?_
      refine GT_st rfl rfl rfl rfl (V_assign rfl rfl) ?_
      refine GT_st rfl rfl rfl rfl (V_assign rfl rfl) ?_
      refine GT_nil ?_
      refine GE_seq ?_
      refine GE_slots (L' := [(1, _), (2, _), (3, _), (4, _), (9, _), (10, _)]) ⟨rfl, rfl, rfl, rfl, rfl, rfl, trivial⟩ ?_
      refine GE_plain (.st 0 (.st 1 (.ld 2 [] (.st 3 (.st 4 (.st 5 (.st 6 (.st 7 .nil)))))))) rfl ?_
      refine GT_st rfl rfl rfl rfl (V_loadN (vs := [_, _, _, _, _, _]) rfl rfl ag_23 sz_23 rfl (CellsAt.item rfl)) ?_
      refine GT_st rfl rfl rfl rfl (V_move rfl rfl) ?_
      refine GT_call rfl rfl rfl rfl rfl rfl rfl rfl rn_28 (fun w hw => C_ref05_Fits (hp.sh hw) hc) (fun _ _ => GR_nil) (fun k' hk' => ?_)
      refine GT_st rfl rfl rfl rfl (V_move rfl rfl) ?_
      refine GT_st rfl rfl rfl rfl (V_extract rfl rfl rfl) ?_
      refine GT_st rfl rfl rfl rfl (V_extract rfl rfl rfl) ?_
      refine GT_st rfl rfl rfl rfl (V_assign rfl rfl) ?_
      refine GT_st rfl rfl rfl rfl (V_assign rfl rfl) ?_
      refine GT_nil ?_
      refine GE_seq ?_
      refine GE_slots (L' := [(1, _), (2, _), (3, _), (4, _), (9, _), (10, _), (11, _), (12, _)]) ⟨rfl, rfl, rfl, rfl, rfl, rfl, rfl, rfl, trivial⟩ ?_
      refine GE_plain (.st 0 (.st 1 (.st 2 (.st 3 (.ld 4 [] (.st 5 (.st 6 (.st 7 (.st 8 (.st 9 .nil)))))))))) rfl ?_
      refine GT_st rfl rfl rfl rfl (V_loadN (vs := [_, _, _, _, _, _]) rfl rfl ag_23 sz_23 rfl (CellsAt.item rfl)) ?_
      refine GT_st rfl rfl rfl rfl (V_move rfl rfl) ?_
      refine GT_st rfl rfl rfl rfl (V_move rfl rfl) ?_
      refine GT_st rfl rfl rfl rfl (V_move rfl rfl) ?_
      refine GT_call0 rfl rfl rfl rfl rfl rfl rfl rfl rn_25 (fun w hw => C_lathe_Locked (hp.sh hw) (hr.sh hw) (by omega)) (GR_nil) ?_
      refine GT_st rfl rfl rfl rfl (V_move rfl rfl) ?_
      refine GT_st rfl rfl rfl rfl (V_extract rfl rfl rfl) ?_
      refine GT_st rfl rfl rfl rfl (V_extract rfl rfl rfl) ?_
      refine GT_st rfl rfl rfl rfl (V_assign rfl rfl) ?_
      refine GT_st rfl rfl rfl rfl (V_assign rfl rfl) ?_
      refine GT_nil ?_
      refine GE_seq ?_
      refine GE_slots (L' := [(1, _), (2, _), (3, _), (4, _), (9, _), (10, _), (11, _), (12, _), (13, _), (14, _)]) ⟨rfl, rfl, rfl, rfl, rfl, rfl, rfl, rfl, rfl, rfl, trivial⟩ ?_
      refine GE_plain (.st 0 (.st 1 (.st 2 (.st 3 (.ld 4 [] (.st 5 (.st 6 (.st 7 (.st 8 (.st 9 .nil)))))))))) rfl ?_
      refine GT_st rfl rfl rfl rfl (V_loadN (vs := [_, _, _, _, _, _]) rfl rfl ag_23 sz_23 rfl (CellsAt.item rfl)) ?_
      refine GT_st rfl rfl rfl rfl (V_move rfl rfl) ?_
      refine GT_st rfl rfl rfl rfl (V_move rfl rfl) ?_
      refine GT_st rfl rfl rfl rfl (V_move rfl rfl) ?_
      refine GT_call0 rfl rfl rfl rfl rfl rfl rfl rfl rn_29 (fun w hw => C_ref05_Locked (hp.sh hw) (hr.sh hw) (by omega)) (GR_nil) ?_
      refine GT_st rfl rfl rfl rfl (V_move rfl rfl) ?_
      refine GT_st rfl rfl rfl rfl (V_extract rfl rfl rfl) ?_
      refine GT_st rfl rfl rfl rfl (V_extract rfl rfl rfl) ?_
      refine GT_st rfl rfl rfl rfl (V_assign rfl rfl) ?_
      refine GT_st rfl rfl rfl rfl (V_assign rfl rfl) ?_
      refine GT_nil ?_
      refine GE_seq ?_
      refine GE_slots (L' := [(9, _), (10, _), (11, _), (12, _), (13, _), (14, _), (15, _), (16, _)]) ⟨rfl, rfl, rfl, rfl, rfl, rfl, rfl, rfl, trivial⟩ ?_
      refine GE_plain (.st 0 (.st 1 (.st 2 (.st 3 (.st 4 (.st 5 (.st 6 (.st 7 (.st 8 (.st 9 (.st 10 (.st 11 (.st 12 (.st 13 (.st 14 (.st 15 (.st 16 (.st 17 (.st 18 (.ld 19 [] (.st 20 (.st 21 .nil)))))))))))))))))))))) rfl ?_
      refine GT_st rfl rfl rfl rfl (V_move rfl rfl) ?_
      refine GT_st rfl rfl rfl rfl (V_move rfl rfl) ?_
      refine GT_st rfl rfl rfl rfl (V_isT (V_eql rfl rfl rfl) (by rw [fits_same hk hk'])) ?_
      refine GT_st rfl rfl rfl rfl (V_move rfl rfl) ?_
      refine GT_st_g rfl rfl rfl rfl rfl rfl rfl (V_move rfl rfl) ?_
      refine GT_st_g rfl rfl rfl rfl rfl rfl rfl (V_move rfl rfl) ?_
      refine GT_st_g rfl rfl rfl rfl rfl rfl rfl (V_isT (V_eql rfl rfl rfl) rfl) ?_
      refine GT_st rfl rfl rfl rfl (V_pick_t rfl rfl rfl) ?_
      refine GT_st rfl rfl rfl rfl (V_move rfl rfl) ?_
      refine GT_st_g rfl rfl rfl rfl rfl rfl rfl (V_move rfl rfl) ?_
      refine GT_st_g rfl rfl rfl rfl rfl rfl rfl (V_move rfl rfl) ?_
      refine GT_st_g rfl rfl rfl rfl rfl rfl rfl (V_isT (V_eql rfl rfl rfl) rfl) ?_
      refine GT_st rfl rfl rfl rfl (V_pick_t rfl rfl rfl) ?_
      refine GT_st rfl rfl rfl rfl (V_move rfl rfl) ?_
      refine GT_st_g rfl rfl rfl rfl rfl rfl rfl (V_move rfl rfl) ?_
      refine GT_st_g rfl rfl rfl rfl rfl rfl rfl (V_move rfl rfl) ?_
      refine GT_st_g rfl rfl rfl rfl rfl rfl rfl (V_isT (V_eql rfl rfl rfl) rfl) ?_
      refine GT_st rfl rfl rfl rfl (V_pick_t rfl rfl rfl) ?_
      refine GT_st rfl rfl rfl rfl (V_move rfl rfl) ?_
      refine GT_call0_g rfl rfl rfl rfl rfl rfl rfl rfl rfl rfl rfl rn_16 (fun w hw => C_law05_Works) (GR_nil) ?_
      refine GT_st rfl rfl rfl rfl (V_pick_t rfl rfl rfl) ?_
      refine GT_st rfl rfl rfl rfl (V_assign rfl rfl) ?_
      refine GT_nil ?_
      refine GE_ret Try.func8 rfl (fun w hw => ⟨?_, hw.nil⟩)
      rfl

theorem L_LathePrefix {b : Blank} {A : Option Addr} {l : List Pt} {c : Nat} {x : Int} {w : World} (hp : RdL w 2 ePt A l) (hxp : l.length ≤ c ∧ c ≤ maxLen ∧ ∀ x ∈ l, PtWf x) (hxw : (Lit.int .u8 x).wf = true) :
    Con0 Try.prog 9 [b.val, .slice A l.length c, .int .u8 x] w (.bool true) := by
  have hx := u8_of hxw
  have hc := hxp.1
  refine Ret_of (vs := [_, _, _]) hm none' Try.func9 rfl Try.ntmps9 rfl ?_
  dsimp only [slotsOf]
  refine GE_seq ?_
  refine GE_plain (.ld 0 [] (.st 1 .nil)) rfl ?_
  refine GT_box (z := [_, _, _, _, _, _]) rfl rfl rfl rfl rfl rfl rfl (fun _ => GR_nil) (fun b3 => ?_)
  refine GT_st rfl rfl rfl rfl (V_assign rfl rfl) ?_
  refine GT_nil ?_
  refine GE_seq ?_
  refine GE_seq ?_
  refine GE_plain (.st 0 (.st 1 (.ld 2 [] (.st 3 .nil)))) rfl ?_
  refine GT_st rfl rfl rfl rfl (V_loadN (vs := [_, _, _, _, _, _]) rfl rfl ag_23 sz_23 rfl (CellsAt.item rfl)) ?_
  refine GT_st rfl rfl rfl rfl (V_move rfl rfl) ?_
  refine GT_call0 rfl rfl rfl rfl rfl rfl rfl rfl rn_24 (fun w hw => C_law05_valid (hp.sh hw)) (GR_nil) ?_
  first | refine GT_st rfl rfl rfl rfl (V_not rfl rfl) ?_ | refine GT_st rfl rfl rfl rfl (V_notB rfl rfl) ?_
  refine GT_nil ?_
  first | refine GE_condNot rfl (fun h1 => ?_) (fun h1 => ?_) | refine GE_cond rfl (fun h1 => ?_) (fun h1 => ?_) | refine GE_condNotB rfl (fun h1 => ?_) (fun h1 => ?_) | refine GE_condB rfl (fun h1 => ?_) (fun h1 => ?_)
  · skip
    refine GE_seq ?_
    refine GE_slots (L' := []) trivial ?_
    refine GE_plain (.ld 0 [] (.st 1 .nil)) rfl ?_
    refine GT_call0 rfl rfl rfl rfl rfl rfl rfl rfl rn_16 (fun w hw => C_law05_Works) (GR_nil) ?_
    refine GT_st rfl rfl rfl rfl (V_assign rfl rfl) ?_
    refine GT_nil ?_
    refine GE_ret Try.func9 rfl (fun w hw => ⟨?_, hw.nil⟩)
    rfl
  · obtain ⟨hl, he⟩ := of_valid h1
    refine GE_skip ?_
    refine GE_seq ?_
    refine GE_slots (L' := [(1, _), (2, _), (3, _)]) ⟨rfl, rfl, rfl, trivial⟩ ?_
    refine GE_plain (.st 0 (.st 1 (.ld 2 [] (.st 3 (.st 4 (.st 5 (.st 6 (.st 7 .nil)))))))) rfl ?_
    refine GT_st rfl rfl rfl rfl (V_loadN (vs := [_, _, _, _, _, _]) rfl rfl ag_23 sz_23 rfl (CellsAt.item rfl)) ?_
    refine GT_st rfl rfl rfl rfl (V_move rfl rfl) ?_
    refine GT_call rfl rfl rfl rfl rfl rfl rfl rfl rn_27 (fun w hw => C_lathe_Fits (hp.sh hw) hc) (fun _ _ => GR_nil) (fun k hk => ?_)
    refine GT_st rfl rfl rfl rfl (V_move rfl rfl) ?_
    refine GT_st rfl rfl rfl rfl (V_extract rfl rfl rfl) ?_
    refine GT_st rfl rfl rfl rfl (V_extract rfl rfl rfl) ?_
    refine GT_st rfl rfl rfl rfl (V_assign rfl rfl) ?_
    refine GT_st rfl rfl rfl rfl (V_assign rfl rfl) ?_
    refine GT_nil ?_
    refine GE_seq ?_
    refine GE_seq ?_
    refine GE_slots (L' := [(1, _), (2, _), (3, _), (7, _), (8, _)]) ⟨rfl, rfl, rfl, rfl, rfl, trivial⟩ ?_
    have hf := hk.1 he
    have hkn := hf.le
    obtain ⟨R, hR⟩ := hf.some
    obtain ⟨f1, f2⟩ := outE_of (take_both he k) hR
    have e1 := take_len (l := l) (k := k) hkn
    obtain ⟨m, hm, hmk⟩ : ∃ m : Nat, x.tmod ((k : Int) + 1) = m ∧ m ≤ k := by
      have q1 := Int.tmod_nonneg ((k : Int) + 1) hx.1
      have q2 := Int.tmod_lt_of_pos x (show (0 : Int) < (k : Int) + 1 by omega)
      exact ⟨(x.tmod ((k : Int) + 1)).toNat, by omega, by omega⟩
    have e2 := take_len (l := l) (k := m) (by omega)
    obtain ⟨R', hR', g1, g2⟩ := take_outer (take_both he k) hR m
    rw [List.take_take, Nat.min_eq_left hmk] at hR'
    rw [e1, Nat.min_eq_left hmk] at g1 g2
    obtain ⟨f3, f4⟩ := outE_of (take_both he m) hR'
    obtain ⟨_, hRl, _⟩ := take_outer (take_both he k) hR k
    have hRl : R.length = k := by
      have := (outer_cutRes (take_both he k) hR).1; rw [e1] at this; exact this
    refine GE_plain (.st 0 (.st 1 (.st 2 (.st 3 (.st 4 (.st 5 (.st 6 (.st 7 (.st 8 (.st 9 (.st 10 (.st 11 .nil)))))))))))) rfl ?_
    refine GT_st rfl rfl rfl rfl (V_move rfl rfl) ?_
    refine GT_st rfl rfl rfl rfl (V_isF (V_neq rfl rfl rfl) (fun q => q he)) ?_
    refine GT_st rfl rfl rfl rfl (V_move rfl rfl) ?_
    refine GT_st_g rfl rfl rfl rfl rfl rfl rfl (V_move rfl rfl) ?_
    refine GT_st_g rfl rfl rfl rfl rfl rfl rfl (V_isF (V_lss rfl rfl rfl) (by omega)) ?_
    refine GT_st rfl rfl rfl rfl (V_pick_f rfl rfl rfl) ?_
    refine GT_st rfl rfl rfl rfl (V_move rfl rfl) ?_
    refine GT_st_g rfl rfl rfl rfl rfl rfl rfl (V_move rfl rfl) ?_
    refine GT_st_g rfl rfl rfl rfl rfl rfl rfl (V_move rfl rfl) ?_
    refine GT_st_g rfl rfl rfl rfl rfl rfl rfl (V_len rfl Try.underlying24 rfl) ?_
    refine GT_st_g rfl rfl rfl rfl rfl rfl rfl (V_isF (V_gtr rfl rfl rfl) (by omega)) ?_
    refine GT_st rfl rfl rfl rfl (V_pick_f rfl rfl rfl) ?_
    refine GT_nil ?_
    refine GE_cond_f rfl ?_
    refine GE_skip ?_
    refine GE_seq ?_
    refine GE_slots (L' := [(1, _), (2, _), (3, _), (7, _)]) ⟨rfl, rfl, rfl, rfl, trivial⟩ ?_
    refine GE_drawn (.st 0 (.st 1 (.st 2 (.st 3 (.ld 4 [1, 2] (.st 5 (.st 6 (.st 7 (.st 8 (.st 9 .nil)))))))))) [4] (by decide +kernel) ?_
    refine GT_st rfl rfl rfl rfl (V_loadN (vs := [_, _, _, _, _, _]) rfl rfl ag_23 sz_23 rfl (CellsAt.item rfl)) ?_
    refine GT_st rfl rfl rfl rfl (V_move rfl rfl) ?_
    refine GT_st rfl rfl rfl rfl (V_move rfl rfl) ?_
    refine GT_st rfl rfl rfl rfl (V_sliceTo rfl rfl rfl Try.underlying24 (by rw [sz_39]; rfl) (h := k) (by omega)) ?_
    refine GT_call rfl rfl rfl rfl rfl rfl rfl rfl rn_17 (fun w hw => (by have := C_lathe_Outermost (b := b) (l := l.take k) (c := c) ((hp.take _).sh hw); rw [e1, f1, f2, hRl] at this; exact this)) (fun _ _ => GR_cons rfl rfl rfl rfl (V_move rfl rfl) (GR_cons rfl rfl rfl rfl (V_move rfl rfl) (GR_nil))) (fun y hy => ?_)
    refine GT_st rfl rfl rfl rfl (V_move rfl rfl) ?_
    refine GT_st rfl rfl rfl rfl (V_extract rfl rfl rfl) ?_
    refine GT_st rfl rfl rfl rfl (V_extract rfl rfl rfl) ?_
    refine GT_st rfl rfl rfl rfl (V_assign rfl rfl) ?_
    refine GT_st rfl rfl rfl rfl (V_assign rfl rfl) ?_
    refine GT_nil ?_
    refine GE_seq ?_
    refine GE_slots (L' := [(1, _), (2, _), (3, _), (7, _), (8, _), (9, _)]) ⟨rfl, rfl, rfl, rfl, rfl, rfl, trivial⟩ ?_
    refine GE_plain (.st 0 (.st 1 (.st 2 (.st 3 (.st 4 (.st 5 .nil)))))) rfl ?_
    refine GT_st rfl rfl rfl rfl (V_move rfl rfl) ?_
    refine GT_st rfl rfl rfl rfl (V_convII rfl rfl (by rw [Try.underlying5]; rfl) Try.underlying3 (wrap_i64 (by omega))) ?_
    refine GT_st rfl rfl rfl rfl (V_move rfl rfl) ?_
    refine GT_st rfl rfl rfl rfl (V_add rfl rfl rfl (wrap_i64 (by omega))) ?_
    refine GT_st rfl rfl rfl rfl (V_rem rfl rfl rfl (by omega)) ?_
    refine GT_st rfl rfl rfl rfl (V_assign rfl rfl) ?_
    refine GT_nil ?_
    refine GE_seq ?_
    refine GE_slots (L' := [(1, _), (3, _), (7, _), (8, _), (9, _), (10, _)]) ⟨rfl, rfl, rfl, rfl, rfl, rfl, trivial⟩ ?_
    rw [hm]
    refine GE_drawn (.st 0 (.st 1 (.st 2 (.st 3 (.ld 4 [1, 2] (.st 5 (.st 6 (.st 7 (.st 8 (.st 9 .nil)))))))))) [4] (by decide +kernel) ?_
    refine GT_st rfl rfl rfl rfl (V_loadN (vs := [_, _, _, _, _, _]) rfl rfl ag_23 sz_23 rfl (CellsAt.item rfl)) ?_
    refine GT_st rfl rfl rfl rfl (V_move rfl rfl) ?_
    refine GT_st rfl rfl rfl rfl (V_move rfl rfl) ?_
    refine GT_st rfl rfl rfl rfl (V_sliceTo rfl rfl rfl Try.underlying24 (by rw [sz_39]; rfl) (h := m) (by omega)) ?_
    refine GT_call rfl rfl rfl rfl rfl rfl rfl rfl rn_17 (fun w hw => (by have := C_lathe_Outermost (b := b) (l := l.take m) (c := c) ((hp.take _).sh hw); rw [e2, f3, f4, g1] at this; exact this)) (fun _ _ => GR_cons rfl rfl rfl rfl (V_move rfl rfl) (GR_cons rfl rfl rfl rfl (V_move rfl rfl) (GR_nil))) (fun z hz => ?_)
    refine GT_st rfl rfl rfl rfl (V_move rfl rfl) ?_
    refine GT_st rfl rfl rfl rfl (V_extract rfl rfl rfl) ?_
    refine GT_st rfl rfl rfl rfl (V_extract rfl rfl rfl) ?_
    refine GT_st rfl rfl rfl rfl (V_assign rfl rfl) ?_
    refine GT_st rfl rfl rfl rfl (V_assign rfl rfl) ?_
    refine GT_nil ?_
    refine GE_seq ?_
    refine GE_seq ?_
    refine GE_slots (L' := [(1, _), (3, _), (7, _), (8, _), (9, _), (10, _), (11, _), (12, _)]) ⟨rfl, rfl, rfl, rfl, rfl, rfl, rfl, rfl, trivial⟩ ?_
    refine GE_plain (.st 0 (.st 1 (.st 2 (.st 3 (.st 4 (.st 5 (.st 6 (.st 7 (.st 8 (.st 9 (.st 10 (.st 11 (.st 12 (.st 13 (.st 14 (.st 15 (.st 16 (.st 17 .nil)))))))))))))))))) rfl ?_
    refine GT_st rfl rfl rfl rfl (V_move rfl rfl) ?_
    refine GT_st rfl rfl rfl rfl (V_isF (V_neq rfl rfl rfl) (fun q => q rfl)) ?_
    refine GT_st rfl rfl rfl rfl (V_move rfl rfl) ?_
    refine GT_st_g rfl rfl rfl rfl rfl rfl rfl (V_move rfl rfl) ?_
    refine GT_st_g rfl rfl rfl rfl rfl rfl rfl (V_isF (V_neq rfl rfl rfl) (fun q => q rfl)) ?_
    refine GT_st rfl rfl rfl rfl (V_pick_f rfl rfl rfl) ?_
    refine GT_st rfl rfl rfl rfl (V_move rfl rfl) ?_
    refine GT_st_g rfl rfl rfl rfl rfl rfl rfl (V_move rfl rfl) ?_
    refine GT_st_g rfl rfl rfl rfl rfl rfl rfl (V_len rfl Try.underlying25 rfl) ?_
    refine GT_st_g rfl rfl rfl rfl rfl rfl rfl (V_move rfl rfl) ?_
    refine GT_st_g rfl rfl rfl rfl rfl rfl rfl (V_isF (V_neq rfl rfl rfl) (fun q => q rfl)) ?_
    refine GT_st rfl rfl rfl rfl (V_pick_f rfl rfl rfl) ?_
    refine GT_st rfl rfl rfl rfl (V_move rfl rfl) ?_
    refine GT_st_g rfl rfl rfl rfl rfl rfl rfl (V_move rfl rfl) ?_
    refine GT_st_g rfl rfl rfl rfl rfl rfl rfl (V_len rfl Try.underlying25 rfl) ?_
    refine GT_st_g rfl rfl rfl rfl rfl rfl rfl (V_move rfl rfl) ?_
    refine GT_st_g rfl rfl rfl rfl rfl rfl rfl (V_isF (V_neq rfl rfl rfl) (fun q => q rfl)) ?_
    refine GT_st rfl rfl rfl rfl (V_pick_f rfl rfl rfl) ?_
    refine GT_nil ?_
    refine GE_cond_f rfl ?_
    refine GE_skip ?_
    refine GE_seq ?_
    refine GE_seq ?_
    refine GE_slots (L' := [(1, _), (3, _), (7, _), (9, _), (10, _), (11, _)]) ⟨rfl, rfl, rfl, rfl, rfl, rfl, trivial⟩ ?_
    refine GE_plain (.st 0 .nil) rfl ?_
    refine GT_st rfl rfl rfl rfl (V_assign rfl rfl) ?_
    refine GT_nil ?_
    refine GE_block ?_
    refine GE_to (GE_loop (ι := Nat) (fun i => m - i) (fun i => [(1, .slice A l.length c), (3, ptr b3 0), (7, I k), (9, .slice y.1 k y.2.1), (10, I m), (11, .slice z.1 m z.2.1), (13, I i)]) (fun i => y.2.2 ++ (z.2.2 ++ [(b3, blk b.cells 23)])) (fun i => i ≤ m) ?_ 0 ?_) ⟨rfl, rfl, rfl, rfl, rfl, rfl, rfl, trivial⟩ (HS.chunk (HS.chunk (HS.cons rfl HS.nil)))
    · intro i hi ih
      refine GE_seq ?_
      refine GE_seq ?_
      refine GE_plain (.st 0 (.st 1 (.st 2 .nil))) rfl ?_
      refine GT_st rfl rfl rfl rfl (V_move rfl rfl) ?_
      refine GT_st rfl rfl rfl rfl (V_move rfl rfl) ?_
      refine GT_st rfl rfl rfl rfl (V_lss rfl rfl rfl) ?_
      refine GT_nil ?_
      first | refine GE_condNot rfl (fun h5 => ?_) (fun h5 => ?_) | refine GE_cond rfl (fun h5 => ?_) (fun h5 => ?_) | refine GE_condNotB rfl (fun h5 => ?_) (fun h5 => ?_) | refine GE_condB rfl (fun h5 => ?_) (fun h5 => ?_)
      · have hlt : i < m := (by omega); have hab := g2 i hlt
        refine GE_skip ?_
        refine GE_seq ?_
        refine GE_block ?_
        refine GE_seq ?_
        refine GE_drawn (.st 0 (.st 1 (.st 2 (.st 3 (.st 4 (.st 5 (.st 6 (.st 7 (.st 8 .nil))))))))) [] (by decide +kernel) ?_
        refine GT_st rfl rfl rfl rfl (V_move rfl rfl) ?_
        refine GT_st rfl rfl rfl rfl (V_move rfl rfl) ?_
        refine GT_st rfl rfl rfl rfl (V_index rfl rfl rfl Try.underlying25 sz_2 rfl (by omega) (hz.isSome (k := i) (by omega))) ?_
        refine GT_st rfl rfl rfl rfl (V_load rfl rfl ag_2 (CellAt.own0 hz eI_len (by omega) rfl)) ?_
        refine GT_st rfl rfl rfl rfl (V_move rfl rfl) ?_
        refine GT_st rfl rfl rfl rfl (V_move rfl rfl) ?_
        refine GT_st rfl rfl rfl rfl (V_index rfl rfl rfl Try.underlying25 sz_2 rfl (by omega) (hy.isSome (k := i) (by omega))) ?_
        refine GT_st rfl rfl rfl rfl (V_load rfl rfl ag_2 (CellAt.own0 hy eI_len (by omega) rfl)) ?_
        refine GT_st rfl rfl rfl rfl (V_isF (V_lss rfl rfl rfl) (by omega)) ?_
        refine GT_nil ?_
        refine GE_cond_f rfl ?_
        refine GE_skip ?_
        refine GE_inBlock ?_
        refine GE_slots (L' := [(1, _), (3, _), (7, _), (9, _), (10, _), (11, _), (13, _)]) ⟨rfl, rfl, rfl, rfl, rfl, rfl, rfl, trivial⟩ ?_
        refine GE_plain (.st 0 (.st 1 (.ld 2 [] .nil))) rfl ?_
        refine GT_st rfl rfl rfl rfl (V_move rfl rfl) ?_
        refine GT_st rfl rfl rfl rfl (V_add rfl rfl rfl (wrap_i64 (by omega))) ?_
        refine GT_ldv rfl rfl rfl rfl rfl (V_assign rfl rfl) (GR_nil) ?_
        refine GT_nil ?_
        exact GE_to (ih (i + 1) (by omega) (by omega)) ⟨rfl, rfl, rfl, rfl, rfl, rfl, rfl, trivial⟩ (HS.chunk (HS.chunk (HS.cons rfl HS.nil)))
      · skip
        refine GE_exit rfl ?_
        refine GE_seq ?_
        refine GE_seq ?_
        refine GE_slots (L' := [(1, _), (3, _), (7, _)]) ⟨rfl, rfl, rfl, trivial⟩ ?_
        refine GE_plain (.st 0 (.st 1 (.st 2 .nil))) rfl ?_
        refine GT_st rfl rfl rfl rfl (V_move rfl rfl) ?_
        refine GT_st rfl rfl rfl rfl (V_add rfl rfl rfl (wrap_i64 (by omega))) ?_
        refine GT_st rfl rfl rfl rfl (V_assign rfl rfl) ?_
        refine GT_nil ?_
        refine GE_block ?_
        refine GE_to (GE_loop (ι := Nat) (fun j => l.length + 1 - j) (fun j => [(1, .slice A l.length c), (3, ptr b3 0), (14, I j)]) (fun j => [(b3, blk b.cells 23)]) (fun j => k < j) ?_ (k + 1) ?_) ⟨rfl, rfl, rfl, trivial⟩ (HS.cons rfl HS.nil)
        · intro j hj ih
          refine GE_seq ?_
          refine GE_seq ?_
          refine GE_plain (.st 0 (.st 1 (.st 2 (.st 3 .nil)))) rfl ?_
          refine GT_st rfl rfl rfl rfl (V_move rfl rfl) ?_
          refine GT_st rfl rfl rfl rfl (V_move rfl rfl) ?_
          refine GT_st rfl rfl rfl rfl (V_len rfl Try.underlying24 rfl) ?_
          refine GT_st rfl rfl rfl rfl (V_leq rfl rfl rfl) ?_
          refine GT_nil ?_
          first | refine GE_condNot rfl (fun h6 => ?_) (fun h6 => ?_) | refine GE_cond rfl (fun h6 => ?_) (fun h6 => ?_) | refine GE_condNotB rfl (fun h6 => ?_) (fun h6 => ?_) | refine GE_condB rfl (fun h6 => ?_) (fun h6 => ?_)
          · have hjl : j ≤ l.length := (by omega); have e3 := take_len (l := l) (k := j) hjl; obtain ⟨f5, f6⟩ := outE_none (take_both he j) (take_none he (hf.no (by omega)) (show k + 1 ≤ j by omega))
            refine GE_skip ?_
            refine GE_seq ?_
            refine GE_block ?_
            refine GE_seq ?_
            refine GE_slots (L' := [(1, _), (3, _), (14, _)]) ⟨rfl, rfl, rfl, trivial⟩ ?_
            refine GE_drawn (.st 0 (.st 1 (.st 2 (.st 3 (.ld 4 [1, 2] (.st 5 (.st 6 (.st 7 (.st 8 .nil))))))))) [4] (by decide +kernel) ?_
            refine GT_st rfl rfl rfl rfl (V_loadN (vs := [_, _, _, _, _, _]) rfl rfl ag_23 sz_23 rfl (CellsAt.item rfl)) ?_
            refine GT_st rfl rfl rfl rfl (V_move rfl rfl) ?_
            refine GT_st rfl rfl rfl rfl (V_move rfl rfl) ?_
            refine GT_st rfl rfl rfl rfl (V_sliceTo rfl rfl rfl Try.underlying24 (by rw [sz_39]; rfl) (h := j) (by omega)) ?_
            refine GT_call rfl rfl rfl rfl rfl rfl rfl rfl rn_17 (fun w hw => (by have := C_lathe_Outermost (b := b) (l := l.take j) (c := c) ((hp.take _).sh hw); rw [e3, f5] at this; exact this)) (fun _ _ => GR_cons rfl rfl rfl rfl (V_move rfl rfl) (GR_cons rfl rfl rfl rfl (V_move rfl rfl) (GR_nil))) (fun u hu => ?_)
            refine GT_st rfl rfl rfl rfl (V_move rfl rfl) ?_
            refine GT_st rfl rfl rfl rfl (V_extract rfl rfl rfl) ?_
            refine GT_st rfl rfl rfl rfl (V_extract rfl rfl rfl) ?_
            refine GT_st rfl rfl rfl rfl (V_assign rfl rfl) ?_
            refine GT_nil ?_
            refine GE_seq ?_
            refine GE_slots (L' := [(1, _), (3, _), (8, _), (14, _)]) ⟨rfl, rfl, rfl, rfl, trivial⟩ ?_
            refine GE_plain (.st 0 (.st 1 .nil)) rfl ?_
            refine GT_st rfl rfl rfl rfl (V_move rfl rfl) ?_
            refine GT_st rfl rfl rfl rfl (V_isF (V_neq rfl rfl rfl) (fun q => q rfl)) ?_
            refine GT_nil ?_
            refine GE_cond_f rfl ?_
            refine GE_skip ?_
            refine GE_inBlock ?_
            refine GE_plain (.st 0 (.st 1 (.ld 2 [] .nil))) rfl ?_
            refine GT_st rfl rfl rfl rfl (V_move rfl rfl) ?_
            refine GT_st rfl rfl rfl rfl (V_add rfl rfl rfl (wrap_i64 (by omega))) ?_
            refine GT_ldv rfl rfl rfl rfl rfl (V_assign rfl rfl) (GR_nil) ?_
            refine GT_nil ?_
            exact GE_to (ih (j + 1) (by omega) (by omega)) ⟨rfl, rfl, rfl, trivial⟩ (HS.cons rfl HS.nil)
          · skip
            refine GE_exit rfl ?_
            refine GE_seq ?_
            refine GE_slots (L' := []) trivial ?_
            refine GE_plain (.ld 0 [] (.st 1 .nil)) rfl ?_
            refine GT_call0 rfl rfl rfl rfl rfl rfl rfl rfl rn_16 (fun w hw => C_law05_Works) (GR_nil) ?_
            refine GT_st rfl rfl rfl rfl (V_assign rfl rfl) ?_
            refine GT_nil ?_
            refine GE_ret Try.func9 rfl (fun w hw => ⟨?_, hw.nil⟩)
            rfl
        · exact Nat.lt_succ_self _
    · exact Nat.zero_le _
end Go.Proofs.Ytacmnmcaeflflaa
