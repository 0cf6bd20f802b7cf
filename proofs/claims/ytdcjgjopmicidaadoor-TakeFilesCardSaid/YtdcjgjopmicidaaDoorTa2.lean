/- Parts and programmes: which are valid, walked. -/
import Derived.Test.YtdcjgjopmicidaaDoorTa1
namespace Go.Proofs.YtdcjgjopmicidaaDoor
open Go.Sx Go.Proofs Go.RowKit

section
variable {w : World} {A A2 : Option Addr} {c c2 : Nat}
set_option maxRecDepth 10000 in
theorem C_good {l : List Tk} {x : Prt} {g : Nat} {X Y : Value} (h : Tks w A l) (hg : BlkAt w g [.slice A l.length c, X, Y] 71) :
    Con0 Tryd.prog 36 [ptr g 0, .agg #[I x.tk, I x.fr, I x.to, I x.gap, I x.inn, I x.out, I x.lev]] w (.bool (goodP l x)) := by
  have hd : ∀ q : Bool, (((0 ≤ x.tk ∧ x.tk < (l.length : Int)) ∧ 0 ≤ x.fr ∧ x.fr < x.to ∧ x.to ≤ ((tkOf l x).data.length : Int) ∧ betw x.gap (-4096) 4096 = true ∧ betw x.inn 0 1000 = true ∧ betw x.out 0 1000 = true ∧ betw x.lev 0 4000 = true) ↔ q = true) → Value.bool q = Value.bool (goodP l x) := fun q hq => congrArg Value.bool (by rw [Bool.eq_iff_iff, ← hq, goodP]; simp only [Bool.and_eq_true, decide_eq_true_iff]; simp only [and_assoc])
  refine Ret_of (vs := [_, _]) hm none' Tryd.func36 rfl Tryd.ntmps36 rfl ?_
  dsimp only [slotsOf]
  refine GE_seq ?_
  refine GE_plain (.ld 0 [] (.st 1 .nil)) rfl ?_
  refine GT_box (z := [_, _, _, _, _, _, _]) rfl rfl rfl rfl rfl rfl rfl (fun _ => GR_nil) (fun b3 => ?_)
  refine GT_st rfl rfl rfl rfl (V_assign rfl rfl) ?_
  refine GT_nil ?_
  refine GE_seq ?_
  refine GE_seq ?_
  refine GE_drawn (.st 0 (.st 1 (.st 2 (.st 3 (.st 4 (.st 5 (.st 6 (.st 7 (.st 8 (.st 9 (.st 10 (.st 11 (.st 12 (.st 13 (.st 14 (.st 15 (.st 16 (.st 17 (.st 18 (.st 19 (.st 20 (.st 21 (.st 22 (.st 23 (.st 24 (.st 25 (.st 26 (.st 27 (.st 28 (.st 29 (.st 30 (.st 31 (.st 32 (.st 33 (.st 34 (.st 35 (.st 36 (.st 37 (.st 38 (.st 39 .nil)))))))))))))))))))))))))))))))))))))))) [] (by decide +kernel) ?_
  first | refine GT_st rfl rfl rfl rfl (V_field rfl rfl fo_65_0) ?_ | refine GT_st rfl rfl rfl rfl (V_fieldA rfl rfl fo_65_0) ?_
  refine GT_st rfl rfl rfl rfl (V_load rfl rfl ag_3 (CellAt.item rfl)) ?_
  refine GT_st rfl rfl rfl rfl (V_lss rfl rfl rfl) ?_
  refine GT_st rfl rfl rfl rfl (V_move rfl rfl) ?_
  first | refine GT_splitNot (d := 8) rfl (fun h1 => ?_) (fun h1 => ?_) | refine GT_split (d := 8) rfl (fun h1 => ?_) (fun h1 => ?_) | refine GT_splitNotB (d := 8) rfl (fun h1 => ?_) (fun h1 => ?_) | refine GT_splitB (d := 8) rfl (fun h1 => ?_) (fun h1 => ?_)
  · skip
    refine GT_skip rfl rfl rfl rfl rfl (by decide) rfl rfl ?_
    refine GT_skip rfl rfl rfl rfl rfl (by decide) rfl rfl ?_
    refine GT_skip rfl rfl rfl rfl rfl (by decide) rfl rfl ?_
    refine GT_skip rfl rfl rfl rfl rfl (by decide) rfl rfl ?_
    refine GT_skip rfl rfl rfl rfl rfl (by decide) rfl rfl ?_
    refine GT_skip rfl rfl rfl rfl rfl (by decide) rfl rfl ?_
    refine GT_skip rfl rfl rfl rfl rfl (by decide) rfl rfl ?_
    refine GT_skip rfl rfl rfl rfl rfl (by decide) rfl rfl ?_
    refine GT_st rfl rfl rfl rfl (V_pick_t rfl rfl rfl) ?_
    refine GT_st rfl rfl rfl rfl (V_move rfl rfl) ?_
    refine GT_skip rfl rfl rfl rfl rfl (by decide) rfl rfl ?_
    refine GT_skip rfl rfl rfl rfl rfl (by decide) rfl rfl ?_
    refine GT_skip rfl rfl rfl rfl rfl (by decide) rfl rfl ?_
    refine GT_st rfl rfl rfl rfl (V_pick_t rfl rfl rfl) ?_
    refine GT_st rfl rfl rfl rfl (V_move rfl rfl) ?_
    refine GT_skip rfl rfl rfl rfl rfl (by decide) rfl rfl ?_
    refine GT_skip rfl rfl rfl rfl rfl (by decide) rfl rfl ?_
    refine GT_skip rfl rfl rfl rfl rfl (by decide) rfl rfl ?_
    refine GT_skip rfl rfl rfl rfl rfl (by decide) rfl rfl ?_
    refine GT_skip rfl rfl rfl rfl rfl (by decide) rfl rfl ?_
    refine GT_st rfl rfl rfl rfl (V_pick_t rfl rfl rfl) ?_
    refine GT_st rfl rfl rfl rfl (V_move rfl rfl) ?_
    refine GT_skip rfl rfl rfl rfl rfl (by decide) rfl rfl ?_
    refine GT_skip rfl rfl rfl rfl rfl (by decide) rfl rfl ?_
    refine GT_skip rfl rfl rfl rfl rfl (by decide) rfl rfl ?_
    refine GT_skip rfl rfl rfl rfl rfl (by decide) rfl rfl ?_
    refine GT_skip rfl rfl rfl rfl rfl (by decide) rfl rfl ?_
    refine GT_skip rfl rfl rfl rfl rfl (by decide) rfl rfl ?_
    refine GT_skip rfl rfl rfl rfl rfl (by decide) rfl rfl ?_
    refine GT_skip rfl rfl rfl rfl rfl (by decide) rfl rfl ?_
    refine GT_skip rfl rfl rfl rfl rfl (by decide) rfl rfl ?_
    refine GT_skip rfl rfl rfl rfl rfl (by decide) rfl rfl ?_
    refine GT_skip rfl rfl rfl rfl rfl (by decide) rfl rfl ?_
    refine GT_skip rfl rfl rfl rfl rfl (by decide) rfl rfl ?_
    refine GT_skip rfl rfl rfl rfl rfl (by decide) rfl rfl ?_
    refine GT_st rfl rfl rfl rfl (V_pick_t rfl rfl rfl) ?_
    refine GT_nil ?_
    refine GE_cond_t rfl ?_
    refine GE_seq ?_
    refine GE_slots (L' := []) trivial ?_
    refine GE_plain (.st 0 .nil) rfl ?_
    refine GT_st rfl rfl rfl rfl (V_assign rfl rfl) ?_
    refine GT_nil ?_
    refine GE_ret Tryd.func36 rfl (fun w hw => ⟨?_, hw.nil⟩)
    refine hd _ ?_; first | exact ⟨fun ⟨⟨a1, a2⟩, a3, a4, a5, a6, a7, a8, a9⟩ => (by first | omega | (unfold tkOf at a5; omega) | exact absurd (h6.symm.trans a6) (by decide) | exact absurd (h7.symm.trans a7) (by decide) | exact absurd (h8.symm.trans a8) (by decide)), fun a => by cases a⟩ | exact ⟨fun a => a.2.2.2.2.2.2.2, fun a => ⟨⟨by omega, by omega⟩, by omega, by omega, by unfold tkOf; omega, h6, h7, h8, a⟩⟩
  · skip
    first | refine GT_st_g rfl rfl rfl rfl rfl rfl rfl (V_field rfl rfl fo_65_0) ?_ | refine GT_st_g rfl rfl rfl rfl rfl rfl rfl (V_fieldA rfl rfl fo_65_0) ?_
    refine GT_st_g rfl rfl rfl rfl rfl rfl rfl (V_load rfl rfl ag_3 (CellAt.item rfl)) ?_
    refine GT_st_g rfl rfl rfl rfl rfl rfl rfl (V_move rfl rfl) ?_
    first | refine GT_st_g rfl rfl rfl rfl rfl rfl rfl (V_nilCheck rfl rfl) ?_ | refine GT_st_g rfl rfl rfl rfl rfl rfl rfl (V_nilCheck_func rfl rfl) ?_ | refine GT_st_g rfl rfl rfl rfl rfl rfl rfl (V_nilCheck_yield rfl rfl) ?_
    first | refine GT_st_g rfl rfl rfl rfl rfl rfl rfl (V_field rfl rfl fo_71_0) ?_ | refine GT_st_g rfl rfl rfl rfl rfl rfl rfl (V_fieldA rfl rfl fo_71_0) ?_
    refine GT_st_g rfl rfl rfl rfl rfl rfl rfl (V_load rfl rfl ag_27 (.old (hg.cell rfl) (noM _))) ?_
    refine GT_st_g rfl rfl rfl rfl rfl rfl rfl (V_len rfl Tryd.underlying27 rfl) ?_
    refine GT_st_g rfl rfl rfl rfl rfl rfl rfl (V_geq rfl rfl rfl) ?_
    refine GT_st rfl rfl rfl rfl (V_pick_f rfl rfl rfl) ?_
    refine GT_st rfl rfl rfl rfl (V_move rfl rfl) ?_
    first | refine GT_splitNot (d := 18) rfl (fun h2 => ?_) (fun h2 => ?_) | refine GT_split (d := 18) rfl (fun h2 => ?_) (fun h2 => ?_) | refine GT_splitNotB (d := 18) rfl (fun h2 => ?_) (fun h2 => ?_) | refine GT_splitB (d := 18) rfl (fun h2 => ?_) (fun h2 => ?_)
    · skip
      refine GT_skip rfl rfl rfl rfl rfl (by decide) rfl rfl ?_
      refine GT_skip rfl rfl rfl rfl rfl (by decide) rfl rfl ?_
      refine GT_skip rfl rfl rfl rfl rfl (by decide) rfl rfl ?_
      refine GT_st rfl rfl rfl rfl (V_pick_t rfl rfl rfl) ?_
      refine GT_st rfl rfl rfl rfl (V_move rfl rfl) ?_
      refine GT_skip rfl rfl rfl rfl rfl (by decide) rfl rfl ?_
      refine GT_skip rfl rfl rfl rfl rfl (by decide) rfl rfl ?_
      refine GT_skip rfl rfl rfl rfl rfl (by decide) rfl rfl ?_
      refine GT_skip rfl rfl rfl rfl rfl (by decide) rfl rfl ?_
      refine GT_skip rfl rfl rfl rfl rfl (by decide) rfl rfl ?_
      refine GT_st rfl rfl rfl rfl (V_pick_t rfl rfl rfl) ?_
      refine GT_st rfl rfl rfl rfl (V_move rfl rfl) ?_
      refine GT_skip rfl rfl rfl rfl rfl (by decide) rfl rfl ?_
      refine GT_skip rfl rfl rfl rfl rfl (by decide) rfl rfl ?_
      refine GT_skip rfl rfl rfl rfl rfl (by decide) rfl rfl ?_
      refine GT_skip rfl rfl rfl rfl rfl (by decide) rfl rfl ?_
      refine GT_skip rfl rfl rfl rfl rfl (by decide) rfl rfl ?_
      refine GT_skip rfl rfl rfl rfl rfl (by decide) rfl rfl ?_
      refine GT_skip rfl rfl rfl rfl rfl (by decide) rfl rfl ?_
      refine GT_skip rfl rfl rfl rfl rfl (by decide) rfl rfl ?_
      refine GT_skip rfl rfl rfl rfl rfl (by decide) rfl rfl ?_
      refine GT_skip rfl rfl rfl rfl rfl (by decide) rfl rfl ?_
      refine GT_skip rfl rfl rfl rfl rfl (by decide) rfl rfl ?_
      refine GT_skip rfl rfl rfl rfl rfl (by decide) rfl rfl ?_
      refine GT_skip rfl rfl rfl rfl rfl (by decide) rfl rfl ?_
      refine GT_st rfl rfl rfl rfl (V_pick_t rfl rfl rfl) ?_
      refine GT_nil ?_
      refine GE_cond_t rfl ?_
      refine GE_seq ?_
      refine GE_slots (L' := []) trivial ?_
      refine GE_plain (.st 0 .nil) rfl ?_
      refine GT_st rfl rfl rfl rfl (V_assign rfl rfl) ?_
      refine GT_nil ?_
      refine GE_ret Tryd.func36 rfl (fun w hw => ⟨?_, hw.nil⟩)
      refine hd _ ?_; first | exact ⟨fun ⟨⟨a1, a2⟩, a3, a4, a5, a6, a7, a8, a9⟩ => (by first | omega | (unfold tkOf at a5; omega) | exact absurd (h6.symm.trans a6) (by decide) | exact absurd (h7.symm.trans a7) (by decide) | exact absurd (h8.symm.trans a8) (by decide)), fun a => by cases a⟩ | exact ⟨fun a => a.2.2.2.2.2.2.2, fun a => ⟨⟨by omega, by omega⟩, by omega, by omega, by unfold tkOf; omega, h6, h7, h8, a⟩⟩
    · skip
      first | refine GT_st_g rfl rfl rfl rfl rfl rfl rfl (V_field rfl rfl fo_65_1) ?_ | refine GT_st_g rfl rfl rfl rfl rfl rfl rfl (V_fieldA rfl rfl fo_65_1) ?_
      refine GT_st_g rfl rfl rfl rfl rfl rfl rfl (V_load rfl rfl ag_3 (CellAt.item rfl)) ?_
      refine GT_st_g rfl rfl rfl rfl rfl rfl rfl (V_lss rfl rfl rfl) ?_
      refine GT_st rfl rfl rfl rfl (V_pick_f rfl rfl rfl) ?_
      refine GT_st rfl rfl rfl rfl (V_move rfl rfl) ?_
      first | refine GT_splitNot (d := 23) rfl (fun h3 => ?_) (fun h3 => ?_) | refine GT_split (d := 23) rfl (fun h3 => ?_) (fun h3 => ?_) | refine GT_splitNotB (d := 23) rfl (fun h3 => ?_) (fun h3 => ?_) | refine GT_splitB (d := 23) rfl (fun h3 => ?_) (fun h3 => ?_)
      · skip
        refine GT_skip rfl rfl rfl rfl rfl (by decide) rfl rfl ?_
        refine GT_skip rfl rfl rfl rfl rfl (by decide) rfl rfl ?_
        refine GT_skip rfl rfl rfl rfl rfl (by decide) rfl rfl ?_
        refine GT_skip rfl rfl rfl rfl rfl (by decide) rfl rfl ?_
        refine GT_skip rfl rfl rfl rfl rfl (by decide) rfl rfl ?_
        refine GT_st rfl rfl rfl rfl (V_pick_t rfl rfl rfl) ?_
        refine GT_st rfl rfl rfl rfl (V_move rfl rfl) ?_
        refine GT_skip rfl rfl rfl rfl rfl (by decide) rfl rfl ?_
        refine GT_skip rfl rfl rfl rfl rfl (by decide) rfl rfl ?_
        refine GT_skip rfl rfl rfl rfl rfl (by decide) rfl rfl ?_
        refine GT_skip rfl rfl rfl rfl rfl (by decide) rfl rfl ?_
        refine GT_skip rfl rfl rfl rfl rfl (by decide) rfl rfl ?_
        refine GT_skip rfl rfl rfl rfl rfl (by decide) rfl rfl ?_
        refine GT_skip rfl rfl rfl rfl rfl (by decide) rfl rfl ?_
        refine GT_skip rfl rfl rfl rfl rfl (by decide) rfl rfl ?_
        refine GT_skip rfl rfl rfl rfl rfl (by decide) rfl rfl ?_
        refine GT_skip rfl rfl rfl rfl rfl (by decide) rfl rfl ?_
        refine GT_skip rfl rfl rfl rfl rfl (by decide) rfl rfl ?_
        refine GT_skip rfl rfl rfl rfl rfl (by decide) rfl rfl ?_
        refine GT_skip rfl rfl rfl rfl rfl (by decide) rfl rfl ?_
        refine GT_st rfl rfl rfl rfl (V_pick_t rfl rfl rfl) ?_
        refine GT_nil ?_
        refine GE_cond_t rfl ?_
        refine GE_seq ?_
        refine GE_slots (L' := []) trivial ?_
        refine GE_plain (.st 0 .nil) rfl ?_
        refine GT_st rfl rfl rfl rfl (V_assign rfl rfl) ?_
        refine GT_nil ?_
        refine GE_ret Tryd.func36 rfl (fun w hw => ⟨?_, hw.nil⟩)
        refine hd _ ?_; first | exact ⟨fun ⟨⟨a1, a2⟩, a3, a4, a5, a6, a7, a8, a9⟩ => (by first | omega | (unfold tkOf at a5; omega) | exact absurd (h6.symm.trans a6) (by decide) | exact absurd (h7.symm.trans a7) (by decide) | exact absurd (h8.symm.trans a8) (by decide)), fun a => by cases a⟩ | exact ⟨fun a => a.2.2.2.2.2.2.2, fun a => ⟨⟨by omega, by omega⟩, by omega, by omega, by unfold tkOf; omega, h6, h7, h8, a⟩⟩
      · skip
        first | refine GT_st_g rfl rfl rfl rfl rfl rfl rfl (V_field rfl rfl fo_65_1) ?_ | refine GT_st_g rfl rfl rfl rfl rfl rfl rfl (V_fieldA rfl rfl fo_65_1) ?_
        refine GT_st_g rfl rfl rfl rfl rfl rfl rfl (V_load rfl rfl ag_3 (CellAt.item rfl)) ?_
        first | refine GT_st_g rfl rfl rfl rfl rfl rfl rfl (V_field rfl rfl fo_65_2) ?_ | refine GT_st_g rfl rfl rfl rfl rfl rfl rfl (V_fieldA rfl rfl fo_65_2) ?_
        refine GT_st_g rfl rfl rfl rfl rfl rfl rfl (V_load rfl rfl ag_3 (CellAt.item rfl)) ?_
        refine GT_st_g rfl rfl rfl rfl rfl rfl rfl (V_geq rfl rfl rfl) ?_
        refine GT_st rfl rfl rfl rfl (V_pick_f rfl rfl rfl) ?_
        refine GT_st rfl rfl rfl rfl (V_move rfl rfl) ?_
        first | refine GT_splitNot (d := 30) rfl (fun h4 => ?_) (fun h4 => ?_) | refine GT_split (d := 30) rfl (fun h4 => ?_) (fun h4 => ?_) | refine GT_splitNotB (d := 30) rfl (fun h4 => ?_) (fun h4 => ?_) | refine GT_splitB (d := 30) rfl (fun h4 => ?_) (fun h4 => ?_)
        · skip
          refine GT_skip rfl rfl rfl rfl rfl (by decide) rfl rfl ?_
          refine GT_skip rfl rfl rfl rfl rfl (by decide) rfl rfl ?_
          refine GT_skip rfl rfl rfl rfl rfl (by decide) rfl rfl ?_
          refine GT_skip rfl rfl rfl rfl rfl (by decide) rfl rfl ?_
          refine GT_skip rfl rfl rfl rfl rfl (by decide) rfl rfl ?_
          refine GT_skip rfl rfl rfl rfl rfl (by decide) rfl rfl ?_
          refine GT_skip rfl rfl rfl rfl rfl (by decide) rfl rfl ?_
          refine GT_skip rfl rfl rfl rfl rfl (by decide) rfl rfl ?_
          refine GT_skip rfl rfl rfl rfl rfl (by decide) rfl rfl ?_
          refine GT_skip rfl rfl rfl rfl rfl (by decide) rfl rfl ?_
          refine GT_skip rfl rfl rfl rfl rfl (by decide) rfl rfl ?_
          refine GT_skip rfl rfl rfl rfl rfl (by decide) rfl rfl ?_
          refine GT_skip rfl rfl rfl rfl rfl (by decide) rfl rfl ?_
          refine GT_st rfl rfl rfl rfl (V_pick_t rfl rfl rfl) ?_
          refine GT_nil ?_
          refine GE_cond_t rfl ?_
          refine GE_seq ?_
          refine GE_slots (L' := []) trivial ?_
          refine GE_plain (.st 0 .nil) rfl ?_
          refine GT_st rfl rfl rfl rfl (V_assign rfl rfl) ?_
          refine GT_nil ?_
          refine GE_ret Tryd.func36 rfl (fun w hw => ⟨?_, hw.nil⟩)
          refine hd _ ?_; first | exact ⟨fun ⟨⟨a1, a2⟩, a3, a4, a5, a6, a7, a8, a9⟩ => (by first | omega | (unfold tkOf at a5; omega) | exact absurd (h6.symm.trans a6) (by decide) | exact absurd (h7.symm.trans a7) (by decide) | exact absurd (h8.symm.trans a8) (by decide)), fun a => by cases a⟩ | exact ⟨fun a => a.2.2.2.2.2.2.2, fun a => ⟨⟨by omega, by omega⟩, by omega, by omega, by unfold tkOf; omega, h6, h7, h8, a⟩⟩
        · have hk : x.tk.toNat < l.length := (by omega)
          first | refine GT_st_g rfl rfl rfl rfl rfl rfl rfl (V_field rfl rfl fo_65_2) ?_ | refine GT_st_g rfl rfl rfl rfl rfl rfl rfl (V_fieldA rfl rfl fo_65_2) ?_
          refine GT_st_g rfl rfl rfl rfl rfl rfl rfl (V_load rfl rfl ag_3 (CellAt.item rfl)) ?_
          refine GT_st_g rfl rfl rfl rfl rfl rfl rfl (V_move rfl rfl) ?_
          first | refine GT_st_g rfl rfl rfl rfl rfl rfl rfl (V_nilCheck rfl rfl) ?_ | refine GT_st_g rfl rfl rfl rfl rfl rfl rfl (V_nilCheck_func rfl rfl) ?_ | refine GT_st_g rfl rfl rfl rfl rfl rfl rfl (V_nilCheck_yield rfl rfl) ?_
          first | refine GT_st_g rfl rfl rfl rfl rfl rfl rfl (V_field rfl rfl fo_71_0) ?_ | refine GT_st_g rfl rfl rfl rfl rfl rfl rfl (V_fieldA rfl rfl fo_71_0) ?_
          refine GT_st_g rfl rfl rfl rfl rfl rfl rfl (V_load rfl rfl ag_27 (.old (hg.cell rfl) (noM _))) ?_
          first | refine GT_st_g rfl rfl rfl rfl rfl rfl rfl (V_field rfl rfl fo_65_0) ?_ | refine GT_st_g rfl rfl rfl rfl rfl rfl rfl (V_fieldA rfl rfl fo_65_0) ?_
          refine GT_st_g rfl rfl rfl rfl rfl rfl rfl (V_load rfl rfl ag_3 (CellAt.item rfl)) ?_
          refine GT_st_g rfl rfl rfl rfl rfl rfl rfl (V_index rfl rfl rfl Tryd.underlying27 sz_24 (k := x.tk.toNat) (by omega) hk (h.1.isSome hk)) ?_
          first | refine GT_st_g rfl rfl rfl rfl rfl rfl rfl (V_field rfl rfl fo_24_1) ?_ | refine GT_st_g rfl rfl rfl rfl rfl rfl rfl (V_fieldA rfl rfl fo_24_1) ?_
          refine GT_st_g rfl rfl rfl rfl rfl rfl rfl (V_load rfl rfl ag_22 (h.1.at1 noM hk rfl)) ?_
          refine GT_st_g rfl rfl rfl rfl rfl rfl rfl (V_len rfl Tryd.underlying22 rfl) ?_
          refine GT_st_g rfl rfl rfl rfl rfl rfl rfl (V_gtr rfl rfl rfl) ?_
          refine GT_st rfl rfl rfl rfl (V_pick_f rfl rfl rfl) ?_
          refine GT_nil ?_
          first | refine GE_condNot rfl (fun h5 => ?_) (fun h5 => ?_) | refine GE_cond rfl (fun h5 => ?_) (fun h5 => ?_) | refine GE_condNotB rfl (fun h5 => ?_) (fun h5 => ?_) | refine GE_condB rfl (fun h5 => ?_) (fun h5 => ?_)
          · skip
            refine GE_seq ?_
            refine GE_slots (L' := []) trivial ?_
            refine GE_plain (.st 0 .nil) rfl ?_
            refine GT_st rfl rfl rfl rfl (V_assign rfl rfl) ?_
            refine GT_nil ?_
            refine GE_ret Tryd.func36 rfl (fun w hw => ⟨?_, hw.nil⟩)
            refine hd _ ?_; first | exact ⟨fun ⟨⟨a1, a2⟩, a3, a4, a5, a6, a7, a8, a9⟩ => (by first | omega | (unfold tkOf at a5; omega) | exact absurd (h6.symm.trans a6) (by decide) | exact absurd (h7.symm.trans a7) (by decide) | exact absurd (h8.symm.trans a8) (by decide)), fun a => by cases a⟩ | exact ⟨fun a => a.2.2.2.2.2.2.2, fun a => ⟨⟨by omega, by omega⟩, by omega, by omega, by unfold tkOf; omega, h6, h7, h8, a⟩⟩
          · skip
            refine GE_skip ?_
            refine GE_seq ?_
            refine GE_slots (L' := [(3, _)]) ⟨rfl, trivial⟩ ?_
            refine GE_plain (.st 0 (.st 1 (.ld 2 [] (.st 3 (.st 4 (.st 5 (.ld 6 [] (.st 7 (.st 8 (.st 9 (.st 10 (.ld 11 [] (.st 12 (.st 13 (.st 14 (.st 15 (.ld 16 [] (.st 17 (.st 18 .nil))))))))))))))))))) rfl ?_
            first | refine GT_st rfl rfl rfl rfl (V_field rfl rfl fo_65_3) ?_ | refine GT_st rfl rfl rfl rfl (V_fieldA rfl rfl fo_65_3) ?_
            refine GT_st rfl rfl rfl rfl (V_load rfl rfl ag_3 (CellAt.item rfl)) ?_
            refine GT_call0 rfl rfl rfl rfl rfl rfl rfl rfl rn_28 (fun w hw => C_between) (GR_nil) ?_
            refine GT_st rfl rfl rfl rfl (V_move rfl rfl) ?_
            first | refine GT_splitNot (d := 48) rfl (fun h6 => ?_) (fun h6 => ?_) | refine GT_split (d := 48) rfl (fun h6 => ?_) (fun h6 => ?_) | refine GT_splitNotB (d := 48) rfl (fun h6 => ?_) (fun h6 => ?_) | refine GT_splitB (d := 48) rfl (fun h6 => ?_) (fun h6 => ?_)
            · skip
              first | refine GT_st_g rfl rfl rfl rfl rfl rfl rfl (V_field rfl rfl fo_65_4) ?_ | refine GT_st_g rfl rfl rfl rfl rfl rfl rfl (V_fieldA rfl rfl fo_65_4) ?_
              refine GT_st_g rfl rfl rfl rfl rfl rfl rfl (V_load rfl rfl ag_3 (CellAt.item rfl)) ?_
              refine GT_call0_g rfl rfl rfl rfl rfl rfl rfl rfl rfl rfl rfl rn_28 (fun w hw => C_between) (GR_nil) ?_
              refine GT_st rfl rfl rfl rfl (V_pick_t rfl rfl rfl) ?_
              refine GT_st rfl rfl rfl rfl (V_move rfl rfl) ?_
              first | refine GT_splitNot (d := 53) rfl (fun h7 => ?_) (fun h7 => ?_) | refine GT_split (d := 53) rfl (fun h7 => ?_) (fun h7 => ?_) | refine GT_splitNotB (d := 53) rfl (fun h7 => ?_) (fun h7 => ?_) | refine GT_splitB (d := 53) rfl (fun h7 => ?_) (fun h7 => ?_)
              · skip
                first | refine GT_st_g rfl rfl rfl rfl rfl rfl rfl (V_field rfl rfl fo_65_5) ?_ | refine GT_st_g rfl rfl rfl rfl rfl rfl rfl (V_fieldA rfl rfl fo_65_5) ?_
                refine GT_st_g rfl rfl rfl rfl rfl rfl rfl (V_load rfl rfl ag_3 (CellAt.item rfl)) ?_
                refine GT_call0_g rfl rfl rfl rfl rfl rfl rfl rfl rfl rfl rfl rn_28 (fun w hw => C_between) (GR_nil) ?_
                refine GT_st rfl rfl rfl rfl (V_pick_t rfl rfl rfl) ?_
                refine GT_st rfl rfl rfl rfl (V_move rfl rfl) ?_
                first | refine GT_splitNot (d := 58) rfl (fun h8 => ?_) (fun h8 => ?_) | refine GT_split (d := 58) rfl (fun h8 => ?_) (fun h8 => ?_) | refine GT_splitNotB (d := 58) rfl (fun h8 => ?_) (fun h8 => ?_) | refine GT_splitB (d := 58) rfl (fun h8 => ?_) (fun h8 => ?_)
                · skip
                  first | refine GT_st_g rfl rfl rfl rfl rfl rfl rfl (V_field rfl rfl fo_65_6) ?_ | refine GT_st_g rfl rfl rfl rfl rfl rfl rfl (V_fieldA rfl rfl fo_65_6) ?_
                  refine GT_st_g rfl rfl rfl rfl rfl rfl rfl (V_load rfl rfl ag_2 (CellAt.item rfl)) ?_
                  refine GT_call0_g rfl rfl rfl rfl rfl rfl rfl rfl rfl rfl rfl rn_28 (fun w hw => C_between) (GR_nil) ?_
                  refine GT_st rfl rfl rfl rfl (V_pick_t rfl rfl rfl) ?_
                  refine GT_st rfl rfl rfl rfl (V_assign rfl rfl) ?_
                  refine GT_nil ?_
                  refine GE_ret Tryd.func36 rfl (fun w hw => ⟨?_, hw.nil⟩)
                  refine hd _ ?_; first | exact ⟨fun ⟨⟨a1, a2⟩, a3, a4, a5, a6, a7, a8, a9⟩ => (by first | omega | (unfold tkOf at a5; omega) | exact absurd (h6.symm.trans a6) (by decide) | exact absurd (h7.symm.trans a7) (by decide) | exact absurd (h8.symm.trans a8) (by decide)), fun a => by cases a⟩ | exact ⟨fun a => a.2.2.2.2.2.2.2, fun a => ⟨⟨by omega, by omega⟩, by omega, by omega, by unfold tkOf; omega, h6, h7, h8, a⟩⟩
                · skip
                  refine GT_skip rfl rfl rfl rfl rfl (by decide) rfl rfl ?_
                  refine GT_skip rfl rfl rfl rfl rfl (by decide) rfl rfl ?_
                  refine GT_skip_ld rfl rfl rfl rfl rfl (by decide) rfl rfl rfl (GR_nil) ?_
                  refine GT_st rfl rfl rfl rfl (V_pick_f rfl rfl rfl) ?_
                  refine GT_st rfl rfl rfl rfl (V_assign rfl rfl) ?_
                  refine GT_nil ?_
                  refine GE_ret Tryd.func36 rfl (fun w hw => ⟨?_, hw.nil⟩)
                  refine hd _ ?_; first | exact ⟨fun ⟨⟨a1, a2⟩, a3, a4, a5, a6, a7, a8, a9⟩ => (by first | omega | (unfold tkOf at a5; omega) | exact absurd (h6.symm.trans a6) (by decide) | exact absurd (h7.symm.trans a7) (by decide) | exact absurd (h8.symm.trans a8) (by decide)), fun a => by cases a⟩ | exact ⟨fun a => a.2.2.2.2.2.2.2, fun a => ⟨⟨by omega, by omega⟩, by omega, by omega, by unfold tkOf; omega, h6, h7, h8, a⟩⟩
              · skip
                refine GT_skip rfl rfl rfl rfl rfl (by decide) rfl rfl ?_
                refine GT_skip rfl rfl rfl rfl rfl (by decide) rfl rfl ?_
                refine GT_skip_ld rfl rfl rfl rfl rfl (by decide) rfl rfl rfl (GR_nil) ?_
                refine GT_st rfl rfl rfl rfl (V_pick_f rfl rfl rfl) ?_
                refine GT_st rfl rfl rfl rfl (V_move rfl rfl) ?_
                refine GT_skip rfl rfl rfl rfl rfl (by decide) rfl rfl ?_
                refine GT_skip rfl rfl rfl rfl rfl (by decide) rfl rfl ?_
                refine GT_skip_ld rfl rfl rfl rfl rfl (by decide) rfl rfl rfl (GR_nil) ?_
                refine GT_st rfl rfl rfl rfl (V_pick_f rfl rfl rfl) ?_
                refine GT_st rfl rfl rfl rfl (V_assign rfl rfl) ?_
                refine GT_nil ?_
                refine GE_ret Tryd.func36 rfl (fun w hw => ⟨?_, hw.nil⟩)
                refine hd _ ?_; first | exact ⟨fun ⟨⟨a1, a2⟩, a3, a4, a5, a6, a7, a8, a9⟩ => (by first | omega | (unfold tkOf at a5; omega) | exact absurd (h6.symm.trans a6) (by decide) | exact absurd (h7.symm.trans a7) (by decide) | exact absurd (h8.symm.trans a8) (by decide)), fun a => by cases a⟩ | exact ⟨fun a => a.2.2.2.2.2.2.2, fun a => ⟨⟨by omega, by omega⟩, by omega, by omega, by unfold tkOf; omega, h6, h7, h8, a⟩⟩
            · skip
              refine GT_skip rfl rfl rfl rfl rfl (by decide) rfl rfl ?_
              refine GT_skip rfl rfl rfl rfl rfl (by decide) rfl rfl ?_
              refine GT_skip_ld rfl rfl rfl rfl rfl (by decide) rfl rfl rfl (GR_nil) ?_
              refine GT_st rfl rfl rfl rfl (V_pick_f rfl rfl rfl) ?_
              refine GT_st rfl rfl rfl rfl (V_move rfl rfl) ?_
              refine GT_skip rfl rfl rfl rfl rfl (by decide) rfl rfl ?_
              refine GT_skip rfl rfl rfl rfl rfl (by decide) rfl rfl ?_
              refine GT_skip_ld rfl rfl rfl rfl rfl (by decide) rfl rfl rfl (GR_nil) ?_
              refine GT_st rfl rfl rfl rfl (V_pick_f rfl rfl rfl) ?_
              refine GT_st rfl rfl rfl rfl (V_move rfl rfl) ?_
              refine GT_skip rfl rfl rfl rfl rfl (by decide) rfl rfl ?_
              refine GT_skip rfl rfl rfl rfl rfl (by decide) rfl rfl ?_
              refine GT_skip_ld rfl rfl rfl rfl rfl (by decide) rfl rfl rfl (GR_nil) ?_
              refine GT_st rfl rfl rfl rfl (V_pick_f rfl rfl rfl) ?_
              refine GT_st rfl rfl rfl rfl (V_assign rfl rfl) ?_
              refine GT_nil ?_
              refine GE_ret Tryd.func36 rfl (fun w hw => ⟨?_, hw.nil⟩)
              refine hd _ ?_; first | exact ⟨fun ⟨⟨a1, a2⟩, a3, a4, a5, a6, a7, a8, a9⟩ => (by first | omega | (unfold tkOf at a5; omega) | exact absurd (h6.symm.trans a6) (by decide) | exact absurd (h7.symm.trans a7) (by decide) | exact absurd (h8.symm.trans a8) (by decide)), fun a => by cases a⟩ | exact ⟨fun a => a.2.2.2.2.2.2.2, fun a => ⟨⟨by omega, by omega⟩, by omega, by omega, by unfold tkOf; omega, h6, h7, h8, a⟩⟩
theorem fin_bd {l : List Tk} {p : List Prt} (hl : TksOk l) : ∀ k, k ≤ p.length → (∀ i, i < k → goodP l (pt p i) = true) → -8192 * (k : Int) ≤ fin (p.take k) ∧ fin (p.take k) ≤ 8192 * k := by
  intro k
  induction k with
  | zero => intro _ _; rw [List.take_zero]; exact ⟨by simp [fin], by simp [fin]⟩
  | succ k ih =>
    intro hk hg
    have h1 := ih (by omega) (fun i hi => hg i (by omega))
    have h2 := goodP_iff.1 (hg k (by omega))
    have h3 := h2.frto
    have h4 := h2.fr0
    have h5 := h2.to1
    have h6 := h2.gap
    have h7 : (tkOf l (pt p k)).data.length ≤ 4096 := by
      have a := h2.tk0; have b := h2.tk1
      exact (tErr_zero.1 (hl.each _ (getD_mem (i := (pt p k).tk.toNat) (by omega)))).1
    rw [fin_take (by omega)]
    unfold en bgn lng
    omega
def NewR (l : List Tk) (p : List Prt) (A : Option Addr) (c : Nat) (w : World) (v : Value) (w' : World) : Prop :=
  (gErr l p = 0 ∧ ∃ (b : Nat) (A' : Option Addr) (c' : Nat) (I' : Items), Own 10 73 ePlc (plcs p p.length) (.slice A' p.length c') I' ∧ v = .tuple #[ptr b 0, I 0] ∧ SH w none' ((b, blk [.slice A l.length c, .slice A' p.length c', I (fin p)] 71) :: I') w') ∨
  (gErr l p ≠ 0 ∧ v = .tuple #[.pointer none, I (gErr l p)] ∧ SH w none' [] w')
set_option maxRecDepth 10000 in
set_option maxHeartbeats 2000000 in
theorem C_new {l : List Tk} {p : List Prt} (h : Tks w A l) (hp : RdL w 7 ePrt A2 p) : Ret Tryd.prog 24 #[.slice A l.length c, .slice A2 p.length c2] w (NewR l p A c w) := by
  refine Ret_of (vs := [_, _]) hm none' Tryd.func24 rfl Tryd.ntmps24 rfl ?_
  dsimp only [slotsOf]
  refine GE_seq ?_
  refine GE_plain (.st 0 (.st 1 .nil)) rfl ?_
  refine GT_st rfl rfl rfl rfl (V_assign rfl rfl) ?_
  refine GT_st rfl rfl rfl rfl (V_assign rfl rfl) ?_
  refine GT_nil ?_
  refine GE_seq ?_
  refine GE_seq ?_
  refine GE_plain (.st 0 (.ld 1 [] (.st 2 .nil))) rfl ?_
  refine GT_st rfl rfl rfl rfl (V_move rfl rfl) ?_
  refine GT_call0 rfl rfl rfl rfl rfl rfl rfl rfl rn_35 (fun w hw => C_CheckTakes (h.sh hw)) (GR_nil) ?_
  refine GT_st rfl rfl rfl rfl (V_assign rfl rfl) ?_
  refine GT_nil ?_
  refine GE_seq ?_
  refine GE_slots (L' := [(0, _), (1, _), (6, _)]) ⟨rfl, rfl, rfl, trivial⟩ ?_
  refine GE_plain (.st 0 (.st 1 .nil)) rfl ?_
  refine GT_st rfl rfl rfl rfl (V_move rfl rfl) ?_
  refine GT_st rfl rfl rfl rfl (V_neq rfl rfl rfl) ?_
  refine GT_nil ?_
  first | refine GE_condNot rfl (fun h1 => ?_) (fun h1 => ?_) | refine GE_cond rfl (fun h1 => ?_) (fun h1 => ?_) | refine GE_condNotB rfl (fun h1 => ?_) (fun h1 => ?_) | refine GE_condB rfl (fun h1 => ?_) (fun h1 => ?_)
  · skip
    refine GE_seq ?_
    refine GE_slots (L' := [(6, _)]) ⟨rfl, trivial⟩ ?_
    refine GE_plain (.st 0 (.st 1 (.st 2 .nil))) rfl ?_
    refine GT_st rfl rfl rfl rfl (V_move rfl rfl) ?_
    refine GT_st rfl rfl rfl rfl (V_assign rfl rfl) ?_
    refine GT_st rfl rfl rfl rfl (V_assign rfl rfl) ?_
    refine GT_nil ?_
    refine GE_ret Tryd.func24 ⟨_, _, rfl, rfl, rfl⟩ (fun w hw => ?_)
    exact .inr ⟨by rw [gErr, if_neg h1]; exact h1, by rw [gErr, if_neg h1], hw.nil⟩
  · have hl := lErr_zero.1 h1
    refine GE_skip ?_
    refine GE_seq ?_
    refine GE_seq ?_
    refine GE_plain (.st 0 (.st 1 (.st 2 .nil))) rfl ?_
    refine GT_st rfl rfl rfl rfl (V_move rfl rfl) ?_
    refine GT_st rfl rfl rfl rfl (V_len rfl Tryd.underlying36 rfl) ?_
    refine GT_st rfl rfl rfl rfl (V_gtr rfl rfl rfl) ?_
    refine GT_nil ?_
    first | refine GE_condNot rfl (fun h2 => ?_) (fun h2 => ?_) | refine GE_cond rfl (fun h2 => ?_) (fun h2 => ?_) | refine GE_condNotB rfl (fun h2 => ?_) (fun h2 => ?_) | refine GE_condB rfl (fun h2 => ?_) (fun h2 => ?_)
    · skip
      refine GE_seq ?_
      refine GE_slots (L' := []) trivial ?_
      refine GE_plain (.st 0 (.st 1 .nil)) rfl ?_
      refine GT_st rfl rfl rfl rfl (V_assign rfl rfl) ?_
      refine GT_st rfl rfl rfl rfl (V_assign rfl rfl) ?_
      refine GT_nil ?_
      refine GE_ret Tryd.func24 ⟨_, _, rfl, rfl, rfl⟩ (fun w hw => ?_)
      have e : gErr l p = 6 := (by rw [gErr, if_pos h1, if_pos (by omega)]); exact .inr ⟨by omega, by rw [e], hw.nil⟩
    · have hp32 : p.length ≤ 32 := (by omega)
      refine GE_skip ?_
      refine GE_seq ?_
      refine GE_slots (L' := [(0, _), (1, _)]) ⟨rfl, rfl, trivial⟩ ?_
      refine GE_plain (.st 0 (.st 1 (.ld 2 [] (.st 3 .nil)))) rfl ?_
      refine GT_st rfl rfl rfl rfl (V_move rfl rfl) ?_
      refine GT_st rfl rfl rfl rfl (V_build (vs := [_, _, _]) rfl rfl zc_71 pl_71 sa_71 rfl) ?_
      refine GT_box (z := [_, _, _]) rfl rfl rfl rfl rfl rfl rfl (fun _ => GR_nil) (fun b24 => ?_)
      refine GT_st rfl rfl rfl rfl (V_assign rfl rfl) ?_
      refine GT_nil ?_
      refine GE_seq ?_
      refine GE_seq ?_
      refine GE_slots (L' := [(1, _), (7, _)]) ⟨rfl, rfl, trivial⟩ ?_
      refine GE_plain (.st 0 (.st 1 (.st 2 .nil))) rfl ?_
      refine GT_st rfl rfl rfl rfl (V_move rfl rfl) ?_
      refine GT_st rfl rfl rfl rfl (V_len rfl Tryd.underlying36 rfl) ?_
      refine GT_st rfl rfl rfl rfl (V_move rfl rfl) ?_
      refine GT_nil ?_
      refine GE_block ?_
      refine GE_to (GE_loop (ι := Nat × Option Addr × Nat × Items) (fun x => p.length - x.1) (fun x => [(7, ptr b24 0), (25, .slice A2 p.length c2), (26, I p.length), (27, I x.1)]) (fun x => (b24, blk [.slice A l.length c, .slice x.2.1 x.1 x.2.2.1, I (fin (p.take x.1))] 71) :: x.2.2.2) (fun x => x.1 ≤ p.length ∧ (∀ i, i < x.1 → goodP l (pt p i) = true) ∧ Own 10 73 ePlc (plcs p x.1) (.slice x.2.1 x.1 x.2.2.1) x.2.2.2) ?_ (0, none, 0, []) ?_) ⟨rfl, rfl, rfl, rfl, trivial⟩ (HS.cons rfl HS.nil)
      · rintro ⟨k, A', c', I'⟩ ⟨hk, hgd, hO⟩ ih; dsimp only at hk hgd hO ih ⊢; have hfb := fin_bd hl k hk hgd
        refine GE_seq ?_
        refine GE_plain (.st 0 .nil) rfl ?_
        refine GT_st rfl rfl rfl rfl (V_lss rfl rfl rfl) ?_
        refine GT_nil ?_
        refine GE_seq ?_
        first | refine GE_condNot rfl (fun h3 => ?_) (fun h3 => ?_) | refine GE_cond rfl (fun h3 => ?_) (fun h3 => ?_) | refine GE_condNotB rfl (fun h3 => ?_) (fun h3 => ?_) | refine GE_condB rfl (fun h3 => ?_) (fun h3 => ?_)
        · have hkl : k < p.length := (by omega)
          refine GE_skip ?_
          refine GE_seq ?_
          refine GE_block ?_
          refine GE_seq ?_
          refine GE_plain (.st 0 (.st 1 (.st 2 (.ld 3 [] (.st 4 (.ld 5 [] .nil)))))) rfl ?_
          refine GT_st rfl rfl rfl rfl (V_move rfl rfl) ?_
          refine GT_st rfl rfl rfl rfl (V_index rfl rfl rfl Tryd.underlying36 sz_65 (k := k) rfl hkl (hp.isSome hkl)) ?_
          refine GT_st rfl rfl rfl rfl (V_loadN (vs := [_, _, _, _, _, _, _]) rfl rfl ag_65 sz_65 rfl (show CellsAt _ _ _ (ePrt (pt p k)) from hp.ats noM hkl)) ?_
          refine GT_alloc rfl rfl rfl rfl rfl zc_65 (fun _ => GR_nil) (fun b9 => ?_)
          refine GT_st rfl rfl rfl rfl (V_assign rfl rfl) ?_
          refine GT_store (vs := [_, _, _, _, _, _, _]) (l' := [_, _, _, _, _, _, _]) rfl rfl rfl rfl rfl rfl rfl sz_65 rfl rfl (Nat.le_of_ble_eq_true rfl) rfl (GR_nil) ?_
          refine GT_nil ?_
          refine GE_seq ?_
          refine GE_seq ?_
          refine GE_slots (L' := [(7, _), (8, _), (9, _), (25, _), (26, _), (27, _)]) ⟨rfl, rfl, rfl, rfl, rfl, rfl, trivial⟩ ?_
          refine GE_plain (.st 0 (.st 1 (.ld 2 [] (.st 3 .nil)))) rfl ?_
          refine GT_st rfl rfl rfl rfl (V_move rfl rfl) ?_
          refine GT_st rfl rfl rfl rfl (V_loadN (vs := [_, _, _, _, _, _, _]) rfl rfl ag_65 sz_65 rfl (CellsAt.item rfl)) ?_
          refine GT_call0 rfl rfl rfl rfl rfl rfl rfl rfl rn_36 (fun w hw => C_good (x := pt p k) (h.sh hw) (BlkAt.of hw)) (GR_nil) ?_
          first | refine GT_st rfl rfl rfl rfl (V_not rfl rfl) ?_ | refine GT_st rfl rfl rfl rfl (V_notB rfl rfl) ?_
          refine GT_nil ?_
          first | refine GE_condNot rfl (fun h4 => ?_) (fun h4 => ?_) | refine GE_cond rfl (fun h4 => ?_) (fun h4 => ?_) | refine GE_condNotB rfl (fun h4 => ?_) (fun h4 => ?_) | refine GE_condB rfl (fun h4 => ?_) (fun h4 => ?_)
          · skip
            refine GE_seq ?_
            refine GE_slots (L' := []) trivial ?_
            refine GE_plain (.st 0 (.st 1 .nil)) rfl ?_
            refine GT_st rfl rfl rfl rfl (V_assign rfl rfl) ?_
            refine GT_st rfl rfl rfl rfl (V_assign rfl rfl) ?_
            refine GT_nil ?_
            refine GE_ret Tryd.func24 ⟨_, _, rfl, rfl, rfl⟩ (fun w hw => ?_)
            have e : gErr l p = 2 := (by rw [gErr, if_pos h1, if_neg (by omega), if_neg (by rw [all_split hkl h4]; decide)]); exact .inr ⟨by omega, by rw [e], hw.nil⟩
          · have hgk := goodP_iff.1 h4; have hfk := fin_bd hl (k + 1) hkl (fun i hi => by rcases Nat.lt_or_ge i k with r | r; exact hgd i r; rw [show i = k by omega]; exact h4); rw [fin_take hkl] at hfk; have hlk : en p k = bgn p k + lng (pt p k) := rfl; have hbk : bgn p k = fin (p.take k) + (pt p k).gap := rfl; have hnk : lng (pt p k) = (pt p k).to - (pt p k).fr := rfl; have hga := hgk.gap; have hfr0 := hgk.fr0; have hfrt := hgk.frto; have hto : (pt p k).to ≤ 4096 := (by have a := hgk.tk0; have b := hgk.tk1; have d := (tErr_zero.1 (hl.each _ (getD_mem (i := (pt p k).tk.toNat) (by omega)))).1; have e := hgk.to1; unfold tkOf at e; omega)
            refine GE_skip ?_
            refine GE_seq ?_
            refine GE_slots (L' := [(7, _), (8, _), (9, _), (25, _), (26, _), (27, _)]) ⟨rfl, rfl, rfl, rfl, rfl, rfl, trivial⟩ ?_
            refine GE_drawn (.st 0 (.st 1 (.st 2 (.st 3 (.st 4 (.st 5 (.st 6 (.st 7 (.st 8 (.st 9 (.ld 10 [0, 1, 2, 3, 4, 5, 6, 7, 8, 9] (.ld 11 [] .nil)))))))))))) [10, 11] (by decide +kernel) ?_
            refine GT_st rfl rfl rfl rfl (V_loadN (vs := [_, _, _, _, _, _, _]) rfl rfl ag_65 sz_65 rfl (CellsAt.item rfl)) ?_
            refine GT_st rfl rfl rfl rfl (V_move rfl rfl) ?_
            refine GT_st rfl rfl rfl rfl (V_move rfl rfl) ?_
            first | refine GT_st rfl rfl rfl rfl (V_nilCheck rfl rfl) ?_ | refine GT_st rfl rfl rfl rfl (V_nilCheck_func rfl rfl) ?_ | refine GT_st rfl rfl rfl rfl (V_nilCheck_yield rfl rfl) ?_
            first | refine GT_st rfl rfl rfl rfl (V_field rfl rfl fo_71_2) ?_ | refine GT_st rfl rfl rfl rfl (V_fieldA rfl rfl fo_71_2) ?_
            refine GT_st rfl rfl rfl rfl (V_load rfl rfl ag_3 (CellAt.item rfl)) ?_
            first | refine GT_st rfl rfl rfl rfl (V_field rfl rfl fo_65_3) ?_ | refine GT_st rfl rfl rfl rfl (V_fieldA rfl rfl fo_65_3) ?_
            refine GT_st rfl rfl rfl rfl (V_load rfl rfl ag_3 (CellAt.item rfl)) ?_
            refine GT_st rfl rfl rfl rfl (V_add rfl rfl rfl ((wrap_i64 (by omega)).trans (show _ = bgn p k from rfl))) ?_
            refine GT_st rfl rfl rfl rfl (V_build (vs := [_, _, _, _, _, _, _, _, _, _]) rfl rfl zc_73 pl_73 sa_73 rfl) ?_
            refine GT_alloc rfl rfl rfl rfl rfl zc_73 (fun _ => GR_cons rfl rfl rfl rfl (V_loadN (vs := [_, _, _, _, _, _, _]) rfl rfl ag_65 sz_65 rfl (CellsAt.item rfl)) (GR_cons rfl rfl rfl rfl (V_move rfl rfl) (GR_cons rfl rfl rfl rfl (V_move rfl rfl) (GR_cons rfl rfl rfl rfl ((by first | exact V_nilCheck rfl rfl | exact V_nilCheck_func rfl rfl | exact V_nilCheck_yield rfl rfl)) (GR_cons rfl rfl rfl rfl ((by first | exact V_field rfl rfl fo_71_2 | exact V_fieldA rfl rfl fo_71_2)) (GR_cons rfl rfl rfl rfl (V_load rfl rfl ag_3 (CellAt.item rfl)) (GR_cons rfl rfl rfl rfl ((by first | exact V_field rfl rfl fo_65_3 | exact V_fieldA rfl rfl fo_65_3)) (GR_cons rfl rfl rfl rfl (V_load rfl rfl ag_3 (CellAt.item rfl)) (GR_cons rfl rfl rfl rfl (V_add rfl rfl rfl ((wrap_i64 (by omega)).trans (show _ = bgn p k from rfl))) (GR_cons rfl rfl rfl rfl (V_build (vs := [_, _, _, _, _, _, _, _, _, _]) rfl rfl zc_73 pl_73 sa_73 rfl) (GR_nil))))))))))) (fun b10 => ?_)
            refine GT_store (vs := [_, _, _, _, _, _, _, _, _, _]) (l' := [_, _, _, _, _, _, _, _, _, _]) rfl rfl rfl rfl rfl rfl rfl sz_73 rfl rfl (Nat.le_of_ble_eq_true rfl) rfl (GR_nil) ?_
            refine GT_nil ?_
            refine GE_seq ?_
            refine GE_slots (L' := [(7, _), (9, _), (10, _), (25, _), (26, _), (27, _)]) ⟨rfl, rfl, rfl, rfl, rfl, rfl, trivial⟩ ?_
            refine GE_plain (.st 0 (.st 1 (.st 2 (.st 3 (.st 4 (.st 5 (.st 6 (.st 7 (.st 8 (.ld 9 [] .nil)))))))))) rfl ?_
            first | refine GT_st rfl rfl rfl rfl (V_field rfl rfl fo_73_2) ?_ | refine GT_st rfl rfl rfl rfl (V_fieldA rfl rfl fo_73_2) ?_
            refine GT_st rfl rfl rfl rfl (V_load rfl rfl ag_3 (CellAt.item rfl)) ?_
            first | refine GT_st rfl rfl rfl rfl (V_field rfl rfl fo_65_2) ?_ | refine GT_st rfl rfl rfl rfl (V_fieldA rfl rfl fo_65_2) ?_
            refine GT_st rfl rfl rfl rfl (V_load rfl rfl ag_3 (CellAt.item rfl)) ?_
            refine GT_st rfl rfl rfl rfl (V_add rfl rfl rfl (wrap_i64 (by omega))) ?_
            first | refine GT_st rfl rfl rfl rfl (V_field rfl rfl fo_65_1) ?_ | refine GT_st rfl rfl rfl rfl (V_fieldA rfl rfl fo_65_1) ?_
            refine GT_st rfl rfl rfl rfl (V_load rfl rfl ag_3 (CellAt.item rfl)) ?_
            refine GT_st rfl rfl rfl rfl (V_sub rfl rfl rfl ((wrap_i64 (by omega)).trans (show bgn p k + (pt p k).to - (pt p k).fr = en p k by omega))) ?_
            first | refine GT_st rfl rfl rfl rfl (V_field rfl rfl fo_73_3) ?_ | refine GT_st rfl rfl rfl rfl (V_fieldA rfl rfl fo_73_3) ?_
            refine GT_store (vs := [_]) (l' := [_, _, _, _, _, _, _, _, _, _]) rfl rfl rfl rfl rfl rfl rfl sz_3 rfl rfl (Nat.le_of_ble_eq_true rfl) rfl (GR_nil) ?_
            refine GT_nil ?_
            refine GE_seq ?_
            refine GE_slots (L' := [(7, _), (10, _), (25, _), (26, _), (27, _)]) ⟨rfl, rfl, rfl, rfl, rfl, trivial⟩ ?_
            refine GE_drawn (.st 0 (.st 1 (.st 2 (.st 3 (.st 4 (.st 5 (.ld 6 [0, 1, 2, 3, 4] (.ld 7 [0] (.st 8 (.st 9 (.ld 10 [] .nil))))))))))) [6, 7, 10] (by decide +kernel) ?_
            refine GT_st rfl rfl rfl rfl (V_move rfl rfl) ?_
            refine GT_st rfl rfl rfl rfl (V_move rfl rfl) ?_
            first | refine GT_st rfl rfl rfl rfl (V_nilCheck rfl rfl) ?_ | refine GT_st rfl rfl rfl rfl (V_nilCheck_func rfl rfl) ?_ | refine GT_st rfl rfl rfl rfl (V_nilCheck_yield rfl rfl) ?_
            first | refine GT_st rfl rfl rfl rfl (V_field rfl rfl fo_71_1) ?_ | refine GT_st rfl rfl rfl rfl (V_fieldA rfl rfl fo_71_1) ?_
            refine GT_st rfl rfl rfl rfl (V_load rfl rfl ag_69 (CellAt.item rfl)) ?_
            refine GT_st rfl rfl rfl rfl (V_loadN (vs := [_, _, _, _, _, _, _, _, _, _]) rfl rfl ag_73 sz_73 rfl (CellsAt.item rfl)) ?_
            refine GT_buildSlice (z := [_, _, _, _, _, _, _, _, _, _]) rfl rfl rfl rfl rfl Tryd.underlying69 zc_73 sz_73 (by decide) rfl rfl (fun _ => GR_cons rfl rfl rfl rfl (V_move rfl rfl) (GR_cons rfl rfl rfl rfl (V_move rfl rfl) (GR_cons rfl rfl rfl rfl ((by first | exact V_nilCheck rfl rfl | exact V_nilCheck_func rfl rfl | exact V_nilCheck_yield rfl rfl)) (GR_cons rfl rfl rfl rfl ((by first | exact V_field rfl rfl fo_71_1 | exact V_fieldA rfl rfl fo_71_1)) (GR_cons rfl rfl rfl rfl (V_load rfl rfl ag_69 (CellAt.item rfl)) (GR_nil)))))) (fun b61 => ?_)
            refine GT_append (enc := ePlc) (m := [plc p k]) rfl rfl rfl rfl rfl rfl rfl hO (fun w m => RdL.own' m ePlc_len) Tryd.underlying69 zc_73 sz_73 ⟨rfl, by decide⟩ by_73 ⟨by rw [plcs_len]; simp only [List.length_singleton]; omega, by rw [plcs_len]; simp only [List.length_singleton]; omega⟩ ePlc_len ePlc_one (fun _ _ _ _ => GR_cons rfl rfl rfl rfl (V_move rfl rfl) (GR_nil)) (fun A2' c2' I2' hO2 => ?_)
            rw [← plcs_succ, plcs_len] at hO2 ⊢
            first | refine GT_st rfl rfl rfl rfl (V_nilCheck rfl rfl) ?_ | refine GT_st rfl rfl rfl rfl (V_nilCheck_func rfl rfl) ?_ | refine GT_st rfl rfl rfl rfl (V_nilCheck_yield rfl rfl) ?_
            first | refine GT_st rfl rfl rfl rfl (V_field rfl rfl fo_71_1) ?_ | refine GT_st rfl rfl rfl rfl (V_fieldA rfl rfl fo_71_1) ?_
            refine GT_store (vs := [_]) (l' := [_, _, _]) rfl rfl rfl rfl rfl rfl rfl sz_69 rfl rfl (Nat.le_of_ble_eq_true rfl) rfl (GR_nil) ?_
            refine GT_nil ?_
            refine GE_slots (L' := [(7, _), (10, _), (25, _), (26, _), (27, _)]) ⟨rfl, rfl, rfl, rfl, rfl, trivial⟩ ?_
            refine GE_plain (.st 0 (.st 1 (.st 2 (.st 3 (.st 4 (.ld 5 [] .nil)))))) rfl ?_
            refine GT_st rfl rfl rfl rfl (V_move rfl rfl) ?_
            first | refine GT_st rfl rfl rfl rfl (V_field rfl rfl fo_73_3) ?_ | refine GT_st rfl rfl rfl rfl (V_fieldA rfl rfl fo_73_3) ?_
            refine GT_st rfl rfl rfl rfl (V_load rfl rfl ag_3 (CellAt.item rfl)) ?_
            first | refine GT_st rfl rfl rfl rfl (V_nilCheck rfl rfl) ?_ | refine GT_st rfl rfl rfl rfl (V_nilCheck_func rfl rfl) ?_ | refine GT_st rfl rfl rfl rfl (V_nilCheck_yield rfl rfl) ?_
            first | refine GT_st rfl rfl rfl rfl (V_field rfl rfl fo_71_2) ?_ | refine GT_st rfl rfl rfl rfl (V_fieldA rfl rfl fo_71_2) ?_
            refine GT_store (vs := [_]) (l' := [_, _, _]) rfl rfl rfl rfl rfl rfl rfl sz_3 rfl rfl (Nat.le_of_ble_eq_true rfl) rfl (GR_nil) ?_
            refine GT_nil ?_
            refine GE_inBlock ?_
            refine GE_slots (L' := [(7, _), (25, _), (26, _), (27, _)]) ⟨rfl, rfl, rfl, rfl, trivial⟩ ?_
            refine GE_plain (.st 0 (.ld 1 [] .nil)) rfl ?_
            refine GT_st rfl rfl rfl rfl (V_add rfl rfl rfl (wrap_i64 (by omega))) ?_
            refine GT_ldv rfl rfl rfl rfl rfl (V_move rfl rfl) (GR_nil) ?_
            refine GT_nil ?_
            exact GE_to (ih (k + 1, A2', c2', I2') ⟨by dsimp only; omega, fun i hi => by rcases Nat.lt_or_ge i k with r | r; exact hgd i r; rw [show i = k by dsimp only at hi; omega]; exact h4, hO2⟩ (by dsimp only; omega)) ⟨rfl, rfl, rfl, rfl, trivial⟩ (HS.cons (by rw [fin_take hkl]) HS.last)
        · obtain rfl : k = p.length := (by omega); rw [fin_all]; have hall := all_getD.2 hgd
          refine GE_exit rfl ?_
          refine GE_seq ?_
          refine GE_slots (L' := [(7, _)]) ⟨rfl, trivial⟩ ?_
          refine GE_plain (.st 0 .nil) rfl ?_
          refine GT_st rfl rfl rfl rfl (V_assign rfl rfl) ?_
          refine GT_nil ?_
          refine GE_seq ?_
          refine GE_seq ?_
          refine GE_plain (.st 0 (.st 1 (.st 2 (.st 3 (.st 4 (.st 5 .nil)))))) rfl ?_
          refine GT_st rfl rfl rfl rfl (V_move rfl rfl) ?_
          first | refine GT_st rfl rfl rfl rfl (V_nilCheck rfl rfl) ?_ | refine GT_st rfl rfl rfl rfl (V_nilCheck_func rfl rfl) ?_ | refine GT_st rfl rfl rfl rfl (V_nilCheck_yield rfl rfl) ?_
          first | refine GT_st rfl rfl rfl rfl (V_field rfl rfl fo_71_1) ?_ | refine GT_st rfl rfl rfl rfl (V_fieldA rfl rfl fo_71_1) ?_
          refine GT_st rfl rfl rfl rfl (V_load rfl rfl ag_69 (CellAt.item rfl)) ?_
          refine GT_st rfl rfl rfl rfl (V_len rfl Tryd.underlying69 rfl) ?_
          refine GT_st rfl rfl rfl rfl (V_move rfl rfl) ?_
          refine GT_nil ?_
          refine GE_block ?_
          refine GE_to (GE_loop (ι := Nat × Int) (fun x => p.length - x.1) (fun x => [(7, ptr b24 0), (11, I x.2), (74, .slice A' p.length c'), (75, I p.length), (76, I x.1)]) (fun x => (b24, blk [.slice A l.length c, .slice A' p.length c', I (fin p)] 71) :: I') (fun x => x.1 ≤ p.length ∧ (∀ i, i < x.1 → posOk p i) ∧ (x.1 ≤ 1 → x.2 = 0) ∧ (1 < x.1 → x.2 = en p (x.1 - 2))) ?_ (0, 0) ?_) ⟨rfl, rfl, rfl, rfl, rfl, trivial⟩ HS.all
          · rintro ⟨j, fr⟩ ⟨hj, hps, hf1, hf2⟩ ih2; dsimp only at hj hps hf1 hf2 ih2 ⊢; have hnn := bgn_nn hps
            refine GE_seq ?_
            refine GE_plain (.st 0 .nil) rfl ?_
            refine GT_st rfl rfl rfl rfl (V_lss rfl rfl rfl) ?_
            refine GT_nil ?_
            refine GE_seq ?_
            first | refine GE_condNot rfl (fun h5 => ?_) (fun h5 => ?_) | refine GE_cond rfl (fun h5 => ?_) (fun h5 => ?_) | refine GE_condNotB rfl (fun h5 => ?_) (fun h5 => ?_) | refine GE_condB rfl (fun h5 => ?_) (fun h5 => ?_)
            · have hjl : j < p.length := (by omega)
              refine GE_skip ?_
              refine GE_seq ?_
              refine GE_block ?_
              refine GE_seq ?_
              refine GE_plain (.st 0 (.st 1 (.st 2 (.ld 3 [] (.st 4 (.ld 5 [] .nil)))))) rfl ?_
              refine GT_st rfl rfl rfl rfl (V_move rfl rfl) ?_
              refine GT_st rfl rfl rfl rfl (V_index rfl rfl rfl Tryd.underlying69 sz_73 (k := j) rfl hjl (hO.isSome (k := j) (by rw [plcs_len]; exact hjl))) ?_
              refine GT_st rfl rfl rfl rfl (V_loadN (vs := [_, _, _, _, _, _, _, _, _, _]) rfl rfl ag_73 sz_73 rfl (CellsAt.ownE hO ePlc_len (by rw [plcs_len]; exact hjl) (by rw [plcs_get hjl, ePlc_plc]))) ?_
              refine GT_alloc rfl rfl rfl rfl rfl zc_73 (fun _ => GR_nil) (fun b13 => ?_)
              refine GT_st rfl rfl rfl rfl (V_assign rfl rfl) ?_
              refine GT_store (vs := [_, _, _, _, _, _, _, _, _, _]) (l' := [_, _, _, _, _, _, _, _, _, _]) rfl rfl rfl rfl rfl rfl rfl sz_73 rfl rfl (Nat.le_of_ble_eq_true rfl) rfl (GR_nil) ?_
              refine GT_nil ?_
              refine GE_seq ?_
              refine GE_seq ?_
              refine GE_slots (L' := [(7, _), (11, _), (12, _), (13, _), (74, _), (75, _), (76, _)]) ⟨rfl, rfl, rfl, rfl, rfl, rfl, rfl, trivial⟩ ?_
              refine GE_drawn (.st 0 (.st 1 (.st 2 (.st 3 (.st 4 (.st 5 (.st 6 (.st 7 (.st 8 (.st 9 (.st 10 (.st 11 (.st 12 (.st 13 (.st 14 (.st 15 (.st 16 (.st 17 (.st 18 (.st 19 (.st 20 (.st 21 (.st 22 (.st 23 (.st 24 (.st 25 (.st 26 (.st 27 (.st 28 (.st 29 (.st 30 (.st 31 (.st 32 (.st 33 (.st 34 (.st 35 .nil)))))))))))))))))))))))))))))))))))) [] (by decide +kernel) ?_
              refine GT_st rfl rfl rfl rfl (V_move rfl rfl) ?_
              refine GT_st rfl rfl rfl rfl (V_gtr rfl rfl rfl) ?_
              refine GT_st rfl rfl rfl rfl (V_move rfl rfl) ?_
              first | refine GT_splitNot (d := 83) rfl (fun h6 => ?_) (fun h6 => ?_) | refine GT_split (d := 83) rfl (fun h6 => ?_) (fun h6 => ?_) | refine GT_splitNotB (d := 83) rfl (fun h6 => ?_) (fun h6 => ?_) | refine GT_splitB (d := 83) rfl (fun h6 => ?_) (fun h6 => ?_)
              · have hn1 := hnn (j - 1) (by omega)
                first | refine GT_st_g rfl rfl rfl rfl rfl rfl rfl (V_field rfl rfl fo_73_3) ?_ | refine GT_st_g rfl rfl rfl rfl rfl rfl rfl (V_fieldA rfl rfl fo_73_3) ?_
                refine GT_st_g rfl rfl rfl rfl rfl rfl rfl (V_load rfl rfl ag_3 (CellAt.item rfl)) ?_
                refine GT_st_g rfl rfl rfl rfl rfl rfl rfl (V_move rfl rfl) ?_
                first | refine GT_st_g rfl rfl rfl rfl rfl rfl rfl (V_nilCheck rfl rfl) ?_ | refine GT_st_g rfl rfl rfl rfl rfl rfl rfl (V_nilCheck_func rfl rfl) ?_ | refine GT_st_g rfl rfl rfl rfl rfl rfl rfl (V_nilCheck_yield rfl rfl) ?_
                first | refine GT_st_g rfl rfl rfl rfl rfl rfl rfl (V_field rfl rfl fo_71_1) ?_ | refine GT_st_g rfl rfl rfl rfl rfl rfl rfl (V_fieldA rfl rfl fo_71_1) ?_
                refine GT_st_g rfl rfl rfl rfl rfl rfl rfl (V_load rfl rfl ag_69 (CellAt.item rfl)) ?_
                refine GT_st_g rfl rfl rfl rfl rfl rfl rfl (V_move rfl rfl) ?_
                refine GT_st_g rfl rfl rfl rfl rfl rfl rfl (V_sub rfl rfl rfl (wrap_i64 (by omega))) ?_
                refine GT_st_g rfl rfl rfl rfl rfl rfl rfl (V_index rfl rfl rfl Tryd.underlying69 sz_73 (k := j - 1) (by omega) (by omega) (hO.isSome (k := j) (by rw [plcs_len]; exact hjl))) ?_
                first | refine GT_st_g rfl rfl rfl rfl rfl rfl rfl (V_field rfl rfl fo_73_3) ?_ | refine GT_st_g rfl rfl rfl rfl rfl rfl rfl (V_fieldA rfl rfl fo_73_3) ?_
                refine GT_st_g rfl rfl rfl rfl rfl rfl rfl (V_load rfl rfl ag_3 (CellAt.own (k := j - 1) hO ePlc_len (by rw [plcs_len]; omega) (by rw [plcs_get (by omega)]; exact (show (ePlc (plc p (j - 1)))[9]? = some (I (en p (j - 1))) from rfl)))) ?_
                refine GT_st_g rfl rfl rfl rfl rfl rfl rfl (V_lss rfl rfl rfl) ?_
                refine GT_st_g rfl rfl rfl rfl rfl rfl rfl (V_move rfl rfl) ?_
                first | refine GT_splitNot (d := 96) rfl (fun h7 => ?_) (fun h7 => ?_) | refine GT_split (d := 96) rfl (fun h7 => ?_) (fun h7 => ?_) | refine GT_splitNotB (d := 96) rfl (fun h7 => ?_) (fun h7 => ?_) | refine GT_splitB (d := 96) rfl (fun h7 => ?_) (fun h7 => ?_)
                · skip
                  refine GT_skip rfl rfl rfl rfl rfl (by decide) rfl rfl ?_
                  refine GT_skip rfl rfl rfl rfl rfl (by decide) rfl rfl ?_
                  refine GT_skip rfl rfl rfl rfl rfl (by decide) rfl rfl ?_
                  refine GT_skip rfl rfl rfl rfl rfl (by decide) rfl rfl ?_
                  refine GT_skip rfl rfl rfl rfl rfl (by decide) rfl rfl ?_
                  refine GT_skip rfl rfl rfl rfl rfl (by decide) rfl rfl ?_
                  refine GT_skip rfl rfl rfl rfl rfl (by decide) rfl rfl ?_
                  refine GT_skip rfl rfl rfl rfl rfl (by decide) rfl rfl ?_
                  refine GT_skip rfl rfl rfl rfl rfl (by decide) rfl rfl ?_
                  refine GT_skip rfl rfl rfl rfl rfl (by decide) rfl rfl ?_
                  refine GT_skip rfl rfl rfl rfl rfl (by decide) rfl rfl ?_
                  refine GT_skip rfl rfl rfl rfl rfl (by decide) rfl rfl ?_
                  refine GT_st_g rfl rfl rfl rfl rfl rfl rfl (V_pick_t rfl rfl rfl) ?_
                  refine GT_st rfl rfl rfl rfl (V_pick_t rfl rfl rfl) ?_
                  refine GT_st rfl rfl rfl rfl (V_move rfl rfl) ?_
                  refine GT_skip rfl rfl rfl rfl rfl (by decide) rfl rfl ?_
                  refine GT_skip rfl rfl rfl rfl rfl (by decide) rfl rfl ?_
                  refine GT_skip rfl rfl rfl rfl rfl (by decide) rfl rfl ?_
                  refine GT_skip rfl rfl rfl rfl rfl (by decide) rfl rfl ?_
                  refine GT_st rfl rfl rfl rfl (V_pick_t rfl rfl rfl) ?_
                  refine GT_nil ?_
                  refine GE_cond_t rfl ?_
                  refine GE_seq ?_
                  refine GE_slots (L' := []) trivial ?_
                  refine GE_plain (.st 0 (.st 1 .nil)) rfl ?_
                  refine GT_st rfl rfl rfl rfl (V_assign rfl rfl) ?_
                  refine GT_st rfl rfl rfl rfl (V_assign rfl rfl) ?_
                  refine GT_nil ?_
                  refine GE_ret Tryd.func24 ⟨_, _, rfl, rfl, rfl⟩ (fun w hw => ?_)
                  first | exact .inl ⟨gErr_zero.2 ⟨hl, by omega, fun i hi => goodP_iff.1 (hgd i hi), hps, by omega⟩, b24, A', c', I', hO, rfl, hw⟩ | (have e : gErr l p = 15 := (by rw [gErr, if_pos h1, if_neg (by omega), if_pos hall, if_neg (fun hP => by have := hP.1 j hjl; unfold posOk at this; omega)]); exact .inr ⟨by omega, by rw [e], hw.nil⟩)
                · skip
                  first | refine GT_st_g rfl rfl rfl rfl rfl rfl rfl (V_field rfl rfl fo_73_2) ?_ | refine GT_st_g rfl rfl rfl rfl rfl rfl rfl (V_fieldA rfl rfl fo_73_2) ?_
                  refine GT_st_g rfl rfl rfl rfl rfl rfl rfl (V_load rfl rfl ag_3 (CellAt.item rfl)) ?_
                  refine GT_st_g rfl rfl rfl rfl rfl rfl rfl (V_move rfl rfl) ?_
                  first | refine GT_st_g rfl rfl rfl rfl rfl rfl rfl (V_nilCheck rfl rfl) ?_ | refine GT_st_g rfl rfl rfl rfl rfl rfl rfl (V_nilCheck_func rfl rfl) ?_ | refine GT_st_g rfl rfl rfl rfl rfl rfl rfl (V_nilCheck_yield rfl rfl) ?_
                  first | refine GT_st_g rfl rfl rfl rfl rfl rfl rfl (V_field rfl rfl fo_71_1) ?_ | refine GT_st_g rfl rfl rfl rfl rfl rfl rfl (V_fieldA rfl rfl fo_71_1) ?_
                  refine GT_st_g rfl rfl rfl rfl rfl rfl rfl (V_load rfl rfl ag_69 (CellAt.item rfl)) ?_
                  refine GT_st_g rfl rfl rfl rfl rfl rfl rfl (V_move rfl rfl) ?_
                  refine GT_st_g rfl rfl rfl rfl rfl rfl rfl (V_sub rfl rfl rfl (wrap_i64 (by omega))) ?_
                  refine GT_st_g rfl rfl rfl rfl rfl rfl rfl (V_index rfl rfl rfl Tryd.underlying69 sz_73 (k := j - 1) (by omega) (by omega) (hO.isSome (k := j) (by rw [plcs_len]; exact hjl))) ?_
                  first | refine GT_st_g rfl rfl rfl rfl rfl rfl rfl (V_field rfl rfl fo_73_2) ?_ | refine GT_st_g rfl rfl rfl rfl rfl rfl rfl (V_fieldA rfl rfl fo_73_2) ?_
                  refine GT_st_g rfl rfl rfl rfl rfl rfl rfl (V_load rfl rfl ag_3 (CellAt.own (k := j - 1) hO ePlc_len (by rw [plcs_len]; omega) (by rw [plcs_get (by omega)]; exact (show (ePlc (plc p (j - 1)))[8]? = some (I (bgn p (j - 1))) from rfl)))) ?_
                  refine GT_st_g rfl rfl rfl rfl rfl rfl rfl (V_lss rfl rfl rfl) ?_
                  refine GT_st_g rfl rfl rfl rfl rfl rfl rfl (V_pick_f rfl rfl rfl) ?_
                  refine GT_st rfl rfl rfl rfl (V_pick_t rfl rfl rfl) ?_
                  refine GT_st rfl rfl rfl rfl (V_move rfl rfl) ?_
                  first | refine GT_splitNot (d := 111) rfl (fun h8 => ?_) (fun h8 => ?_) | refine GT_split (d := 111) rfl (fun h8 => ?_) (fun h8 => ?_) | refine GT_splitNotB (d := 111) rfl (fun h8 => ?_) (fun h8 => ?_) | refine GT_splitB (d := 111) rfl (fun h8 => ?_) (fun h8 => ?_)
                  · skip
                    refine GT_skip rfl rfl rfl rfl rfl (by decide) rfl rfl ?_
                    refine GT_skip rfl rfl rfl rfl rfl (by decide) rfl rfl ?_
                    refine GT_skip rfl rfl rfl rfl rfl (by decide) rfl rfl ?_
                    refine GT_skip rfl rfl rfl rfl rfl (by decide) rfl rfl ?_
                    refine GT_st rfl rfl rfl rfl (V_pick_t rfl rfl rfl) ?_
                    refine GT_nil ?_
                    refine GE_cond_t rfl ?_
                    refine GE_seq ?_
                    refine GE_slots (L' := []) trivial ?_
                    refine GE_plain (.st 0 (.st 1 .nil)) rfl ?_
                    refine GT_st rfl rfl rfl rfl (V_assign rfl rfl) ?_
                    refine GT_st rfl rfl rfl rfl (V_assign rfl rfl) ?_
                    refine GT_nil ?_
                    refine GE_ret Tryd.func24 ⟨_, _, rfl, rfl, rfl⟩ (fun w hw => ?_)
                    first | exact .inl ⟨gErr_zero.2 ⟨hl, by omega, fun i hi => goodP_iff.1 (hgd i hi), hps, by omega⟩, b24, A', c', I', hO, rfl, hw⟩ | (have e : gErr l p = 15 := (by rw [gErr, if_pos h1, if_neg (by omega), if_pos hall, if_neg (fun hP => by have := hP.1 j hjl; unfold posOk at this; omega)]); exact .inr ⟨by omega, by rw [e], hw.nil⟩)
                  · skip
                    first | refine GT_st_g rfl rfl rfl rfl rfl rfl rfl (V_field rfl rfl fo_73_2) ?_ | refine GT_st_g rfl rfl rfl rfl rfl rfl rfl (V_fieldA rfl rfl fo_73_2) ?_
                    refine GT_st_g rfl rfl rfl rfl rfl rfl rfl (V_load rfl rfl ag_3 (CellAt.item rfl)) ?_
                    refine GT_st_g rfl rfl rfl rfl rfl rfl rfl (V_move rfl rfl) ?_
                    refine GT_st_g rfl rfl rfl rfl rfl rfl rfl (V_lss rfl rfl rfl) ?_
                    refine GT_st rfl rfl rfl rfl (V_pick_f rfl rfl rfl) ?_
                    refine GT_nil ?_
                    first | refine GE_condNot rfl (fun h9 => ?_) (fun h9 => ?_) | refine GE_cond rfl (fun h9 => ?_) (fun h9 => ?_) | refine GE_condNotB rfl (fun h9 => ?_) (fun h9 => ?_) | refine GE_condB rfl (fun h9 => ?_) (fun h9 => ?_)
                    · skip
                      refine GE_seq ?_
                      refine GE_slots (L' := []) trivial ?_
                      refine GE_plain (.st 0 (.st 1 .nil)) rfl ?_
                      refine GT_st rfl rfl rfl rfl (V_assign rfl rfl) ?_
                      refine GT_st rfl rfl rfl rfl (V_assign rfl rfl) ?_
                      refine GT_nil ?_
                      refine GE_ret Tryd.func24 ⟨_, _, rfl, rfl, rfl⟩ (fun w hw => ?_)
                      have e : gErr l p = 15 := (by rw [gErr, if_pos h1, if_neg (by omega), if_pos hall, if_neg (fun hP => by have := hP.1 j hjl; unfold posOk at this; omega)]); exact .inr ⟨by omega, by rw [e], hw.nil⟩
                    · have hok : posOk p j := (by unfold posOk; omega)
                      refine GE_skip ?_
                      refine GE_seq ?_
                      refine GE_slots (L' := [(7, _), (11, _), (12, _), (74, _), (75, _), (76, _), (84, _), (85, _), (86, _), (87, _), (88, _), (89, _), (90, _), (91, _), (92, _), (93, _), (94, _), (95, _), (96, _), (97, _), (98, _), (99, _), (100, _), (101, _), (102, _), (103, _), (104, _), (105, _), (106, _), (107, _), (108, _), (109, _), (112, _), (113, _), (114, _), (115, _)]) ⟨rfl, rfl, rfl, rfl, rfl, rfl, rfl, rfl, rfl, rfl, rfl, rfl, rfl, rfl, rfl, rfl, rfl, rfl, rfl, rfl, rfl, rfl, rfl, rfl, rfl, rfl, rfl, rfl, rfl, rfl, rfl, rfl, rfl, rfl, rfl, rfl, trivial⟩ ?_
                      refine GE_plain (.st 0 (.st 1 .nil)) rfl ?_
                      refine GT_st rfl rfl rfl rfl (V_move rfl rfl) ?_
                      refine GT_st rfl rfl rfl rfl (V_gtr rfl rfl rfl) ?_
                      refine GT_nil ?_
                      first | refine GE_condNot rfl (fun h10 => ?_) (fun h10 => ?_) | refine GE_cond rfl (fun h10 => ?_) (fun h10 => ?_) | refine GE_condNotB rfl (fun h10 => ?_) (fun h10 => ?_) | refine GE_condB rfl (fun h10 => ?_) (fun h10 => ?_)
                      · skip
                        refine GE_plain (.st 0 (.st 1 (.st 2 (.st 3 (.st 4 (.st 5 (.st 6 (.st 7 (.st 8 (.st 9 .nil)))))))))) rfl ?_
                        refine GT_st rfl rfl rfl rfl (V_move rfl rfl) ?_
                        first | refine GT_st rfl rfl rfl rfl (V_nilCheck rfl rfl) ?_ | refine GT_st rfl rfl rfl rfl (V_nilCheck_func rfl rfl) ?_ | refine GT_st rfl rfl rfl rfl (V_nilCheck_yield rfl rfl) ?_
                        first | refine GT_st rfl rfl rfl rfl (V_field rfl rfl fo_71_1) ?_ | refine GT_st rfl rfl rfl rfl (V_fieldA rfl rfl fo_71_1) ?_
                        refine GT_st rfl rfl rfl rfl (V_load rfl rfl ag_69 (CellAt.item rfl)) ?_
                        refine GT_st rfl rfl rfl rfl (V_move rfl rfl) ?_
                        refine GT_st rfl rfl rfl rfl (V_sub rfl rfl rfl (wrap_i64 (by omega))) ?_
                        refine GT_st rfl rfl rfl rfl (V_index rfl rfl rfl Tryd.underlying69 sz_73 (k := j - 1) (by omega) (by omega) (hO.isSome (k := j) (by rw [plcs_len]; exact hjl))) ?_
                        first | refine GT_st rfl rfl rfl rfl (V_field rfl rfl fo_73_3) ?_ | refine GT_st rfl rfl rfl rfl (V_fieldA rfl rfl fo_73_3) ?_
                        refine GT_st rfl rfl rfl rfl (V_load rfl rfl ag_3 (CellAt.own (k := j - 1) hO ePlc_len (by rw [plcs_len]; omega) (by rw [plcs_get (by omega)]; exact (show (ePlc (plc p (j - 1)))[9]? = some (I (en p (j - 1))) from rfl)))) ?_
                        refine GT_st rfl rfl rfl rfl (V_assign rfl rfl) ?_
                        refine GT_nil ?_
                        refine GE_inBlock ?_
                        refine GE_slots (L' := [(7, _), (11, _), (74, _), (75, _), (76, _), (84, _), (85, _), (86, _), (87, _), (88, _), (89, _), (90, _), (91, _), (92, _), (93, _), (94, _), (95, _), (96, _), (97, _), (98, _), (99, _), (100, _), (101, _), (102, _), (103, _), (104, _), (105, _), (106, _), (107, _), (108, _), (109, _), (112, _), (113, _), (114, _), (115, _)]) ⟨rfl, rfl, rfl, rfl, rfl, rfl, rfl, rfl, rfl, rfl, rfl, rfl, rfl, rfl, rfl, rfl, rfl, rfl, rfl, rfl, rfl, rfl, rfl, rfl, rfl, rfl, rfl, rfl, rfl, rfl, rfl, rfl, rfl, rfl, rfl, trivial⟩ ?_
                        refine GE_plain (.st 0 (.ld 1 [] .nil)) rfl ?_
                        refine GT_st rfl rfl rfl rfl (V_add rfl rfl rfl (wrap_i64 (by omega))) ?_
                        refine GT_ldv rfl rfl rfl rfl rfl (V_move rfl rfl) (GR_nil) ?_
                        refine GT_nil ?_
                        first
                          | exact GE_to (ih2 (j + 1, en p (j - 1)) ⟨by dsimp only; omega, fun i hi => by rcases Nat.lt_or_ge i j with r | r; exact hps i r; rw [show i = j by dsimp only at hi; omega]; exact hok, fun q => by dsimp only at q; omega, fun _ => by dsimp only; rw [show j + 1 - 2 = j - 1 by omega]⟩ (by dsimp only; omega)) ⟨rfl, rfl, rfl, rfl, rfl, trivial⟩ (HS.cons rfl HS.last)
                          | exact GE_to (ih2 (j + 1, fr) ⟨by dsimp only; omega, fun i hi => by rcases Nat.lt_or_ge i j with r | r; exact hps i r; rw [show i = j by dsimp only at hi; omega]; exact hok, fun q => hf1 (by omega), fun q => by dsimp only at q; omega⟩ (by dsimp only; omega)) ⟨rfl, rfl, rfl, rfl, rfl, trivial⟩ (HS.cons rfl HS.last)
                      · skip
                        refine GE_skip ?_
                        refine GE_inBlock ?_
                        refine GE_plain (.st 0 (.ld 1 [] .nil)) rfl ?_
                        refine GT_st rfl rfl rfl rfl (V_add rfl rfl rfl (wrap_i64 (by omega))) ?_
                        refine GT_ldv rfl rfl rfl rfl rfl (V_move rfl rfl) (GR_nil) ?_
                        refine GT_nil ?_
                        first
                          | exact GE_to (ih2 (j + 1, en p (j - 1)) ⟨by dsimp only; omega, fun i hi => by rcases Nat.lt_or_ge i j with r | r; exact hps i r; rw [show i = j by dsimp only at hi; omega]; exact hok, fun q => by dsimp only at q; omega, fun _ => by dsimp only; rw [show j + 1 - 2 = j - 1 by omega]⟩ (by dsimp only; omega)) ⟨rfl, rfl, rfl, rfl, rfl, trivial⟩ (HS.cons rfl HS.last)
                          | exact GE_to (ih2 (j + 1, fr) ⟨by dsimp only; omega, fun i hi => by rcases Nat.lt_or_ge i j with r | r; exact hps i r; rw [show i = j by dsimp only at hi; omega]; exact hok, fun q => hf1 (by omega), fun q => by dsimp only at q; omega⟩ (by dsimp only; omega)) ⟨rfl, rfl, rfl, rfl, rfl, trivial⟩ (HS.cons rfl HS.last)
              · skip
                refine GT_skip rfl rfl rfl rfl rfl (by decide) rfl rfl ?_
                refine GT_skip rfl rfl rfl rfl rfl (by decide) rfl rfl ?_
                refine GT_skip rfl rfl rfl rfl rfl (by decide) rfl rfl ?_
                refine GT_skip rfl rfl rfl rfl rfl (by decide) rfl rfl ?_
                refine GT_skip rfl rfl rfl rfl rfl (by decide) rfl rfl ?_
                refine GT_skip rfl rfl rfl rfl rfl (by decide) rfl rfl ?_
                refine GT_skip rfl rfl rfl rfl rfl (by decide) rfl rfl ?_
                refine GT_skip rfl rfl rfl rfl rfl (by decide) rfl rfl ?_
                refine GT_skip rfl rfl rfl rfl rfl (by decide) rfl rfl ?_
                refine GT_skip rfl rfl rfl rfl rfl (by decide) rfl rfl ?_
                refine GT_skip rfl rfl rfl rfl rfl (by decide) rfl rfl ?_
                refine GT_skip rfl rfl rfl rfl rfl (by decide) rfl rfl ?_
                refine GT_skip rfl rfl rfl rfl rfl (by decide) rfl rfl ?_
                refine GT_skip rfl rfl rfl rfl rfl (by decide) rfl rfl ?_
                refine GT_skip rfl rfl rfl rfl rfl (by decide) rfl rfl ?_
                refine GT_skip rfl rfl rfl rfl rfl (by decide) rfl rfl ?_
                refine GT_skip rfl rfl rfl rfl rfl (by decide) rfl rfl ?_
                refine GT_skip rfl rfl rfl rfl rfl (by decide) rfl rfl ?_
                refine GT_skip rfl rfl rfl rfl rfl (by decide) rfl rfl ?_
                refine GT_skip rfl rfl rfl rfl rfl (by decide) rfl rfl ?_
                refine GT_skip rfl rfl rfl rfl rfl (by decide) rfl rfl ?_
                refine GT_skip rfl rfl rfl rfl rfl (by decide) rfl rfl ?_
                refine GT_skip rfl rfl rfl rfl rfl (by decide) rfl rfl ?_
                refine GT_skip rfl rfl rfl rfl rfl (by decide) rfl rfl ?_
                refine GT_skip rfl rfl rfl rfl rfl (by decide) rfl rfl ?_
                refine GT_skip rfl rfl rfl rfl rfl (by decide) rfl rfl ?_
                refine GT_st rfl rfl rfl rfl (V_pick_f rfl rfl rfl) ?_
                refine GT_st rfl rfl rfl rfl (V_move rfl rfl) ?_
                first | refine GT_st_g rfl rfl rfl rfl rfl rfl rfl (V_field rfl rfl fo_73_2) ?_ | refine GT_st_g rfl rfl rfl rfl rfl rfl rfl (V_fieldA rfl rfl fo_73_2) ?_
                refine GT_st_g rfl rfl rfl rfl rfl rfl rfl (V_load rfl rfl ag_3 (CellAt.item rfl)) ?_
                refine GT_st_g rfl rfl rfl rfl rfl rfl rfl (V_move rfl rfl) ?_
                refine GT_st_g rfl rfl rfl rfl rfl rfl rfl (V_lss rfl rfl rfl) ?_
                refine GT_st rfl rfl rfl rfl (V_pick_f rfl rfl rfl) ?_
                refine GT_nil ?_
                first | refine GE_condNot rfl (fun h9 => ?_) (fun h9 => ?_) | refine GE_cond rfl (fun h9 => ?_) (fun h9 => ?_) | refine GE_condNotB rfl (fun h9 => ?_) (fun h9 => ?_) | refine GE_condB rfl (fun h9 => ?_) (fun h9 => ?_)
                · skip
                  refine GE_seq ?_
                  refine GE_slots (L' := []) trivial ?_
                  refine GE_plain (.st 0 (.st 1 .nil)) rfl ?_
                  refine GT_st rfl rfl rfl rfl (V_assign rfl rfl) ?_
                  refine GT_st rfl rfl rfl rfl (V_assign rfl rfl) ?_
                  refine GT_nil ?_
                  refine GE_ret Tryd.func24 ⟨_, _, rfl, rfl, rfl⟩ (fun w hw => ?_)
                  have e : gErr l p = 15 := (by rw [gErr, if_pos h1, if_neg (by omega), if_pos hall, if_neg (fun hP => by have := hP.1 j hjl; unfold posOk at this; omega)]); exact .inr ⟨by omega, by rw [e], hw.nil⟩
                · have hok : posOk p j := (by unfold posOk; omega)
                  refine GE_skip ?_
                  refine GE_seq ?_
                  refine GE_slots (L' := [(7, _), (11, _), (12, _), (74, _), (75, _), (76, _), (84, _), (85, _), (86, _), (87, _), (88, _), (89, _), (90, _), (91, _), (92, _), (93, _), (94, _), (95, _), (96, _), (97, _), (98, _), (99, _), (100, _), (101, _), (102, _), (103, _), (104, _), (105, _), (106, _), (107, _), (108, _), (109, _), (112, _), (113, _), (114, _), (115, _)]) ⟨rfl, rfl, rfl, rfl, rfl, rfl, rfl, rfl, rfl, rfl, rfl, rfl, rfl, rfl, rfl, rfl, rfl, rfl, rfl, rfl, rfl, rfl, rfl, rfl, rfl, rfl, rfl, rfl, rfl, rfl, rfl, rfl, rfl, rfl, rfl, rfl, trivial⟩ ?_
                  refine GE_plain (.st 0 (.st 1 .nil)) rfl ?_
                  refine GT_st rfl rfl rfl rfl (V_move rfl rfl) ?_
                  refine GT_st rfl rfl rfl rfl (V_gtr rfl rfl rfl) ?_
                  refine GT_nil ?_
                  first | refine GE_condNot rfl (fun h10 => ?_) (fun h10 => ?_) | refine GE_cond rfl (fun h10 => ?_) (fun h10 => ?_) | refine GE_condNotB rfl (fun h10 => ?_) (fun h10 => ?_) | refine GE_condB rfl (fun h10 => ?_) (fun h10 => ?_)
                  · skip
                    refine GE_plain (.st 0 (.st 1 (.st 2 (.st 3 (.st 4 (.st 5 (.st 6 (.st 7 (.st 8 (.st 9 .nil)))))))))) rfl ?_
                    refine GT_st rfl rfl rfl rfl (V_move rfl rfl) ?_
                    first | refine GT_st rfl rfl rfl rfl (V_nilCheck rfl rfl) ?_ | refine GT_st rfl rfl rfl rfl (V_nilCheck_func rfl rfl) ?_ | refine GT_st rfl rfl rfl rfl (V_nilCheck_yield rfl rfl) ?_
                    first | refine GT_st rfl rfl rfl rfl (V_field rfl rfl fo_71_1) ?_ | refine GT_st rfl rfl rfl rfl (V_fieldA rfl rfl fo_71_1) ?_
                    refine GT_st rfl rfl rfl rfl (V_load rfl rfl ag_69 (CellAt.item rfl)) ?_
                    refine GT_st rfl rfl rfl rfl (V_move rfl rfl) ?_
                    refine GT_st rfl rfl rfl rfl (V_sub rfl rfl rfl (wrap_i64 (by omega))) ?_
                    refine GT_st rfl rfl rfl rfl (V_index rfl rfl rfl Tryd.underlying69 sz_73 (k := j - 1) (by omega) (by omega) (hO.isSome (k := j) (by rw [plcs_len]; exact hjl))) ?_
                    first | refine GT_st rfl rfl rfl rfl (V_field rfl rfl fo_73_3) ?_ | refine GT_st rfl rfl rfl rfl (V_fieldA rfl rfl fo_73_3) ?_
                    refine GT_st rfl rfl rfl rfl (V_load rfl rfl ag_3 (CellAt.own (k := j - 1) hO ePlc_len (by rw [plcs_len]; omega) (by rw [plcs_get (by omega)]; exact (show (ePlc (plc p (j - 1)))[9]? = some (I (en p (j - 1))) from rfl)))) ?_
                    refine GT_st rfl rfl rfl rfl (V_assign rfl rfl) ?_
                    refine GT_nil ?_
                    refine GE_inBlock ?_
                    refine GE_slots (L' := [(7, _), (11, _), (74, _), (75, _), (76, _), (84, _), (85, _), (86, _), (87, _), (88, _), (89, _), (90, _), (91, _), (92, _), (93, _), (94, _), (95, _), (96, _), (97, _), (98, _), (99, _), (100, _), (101, _), (102, _), (103, _), (104, _), (105, _), (106, _), (107, _), (108, _), (109, _), (112, _), (113, _), (114, _), (115, _)]) ⟨rfl, rfl, rfl, rfl, rfl, rfl, rfl, rfl, rfl, rfl, rfl, rfl, rfl, rfl, rfl, rfl, rfl, rfl, rfl, rfl, rfl, rfl, rfl, rfl, rfl, rfl, rfl, rfl, rfl, rfl, rfl, rfl, rfl, rfl, rfl, trivial⟩ ?_
                    refine GE_plain (.st 0 (.ld 1 [] .nil)) rfl ?_
                    refine GT_st rfl rfl rfl rfl (V_add rfl rfl rfl (wrap_i64 (by omega))) ?_
                    refine GT_ldv rfl rfl rfl rfl rfl (V_move rfl rfl) (GR_nil) ?_
                    refine GT_nil ?_
                    first
                      | exact GE_to (ih2 (j + 1, en p (j - 1)) ⟨by dsimp only; omega, fun i hi => by rcases Nat.lt_or_ge i j with r | r; exact hps i r; rw [show i = j by dsimp only at hi; omega]; exact hok, fun q => by dsimp only at q; omega, fun _ => by dsimp only; rw [show j + 1 - 2 = j - 1 by omega]⟩ (by dsimp only; omega)) ⟨rfl, rfl, rfl, rfl, rfl, trivial⟩ (HS.cons rfl HS.last)
                      | exact GE_to (ih2 (j + 1, fr) ⟨by dsimp only; omega, fun i hi => by rcases Nat.lt_or_ge i j with r | r; exact hps i r; rw [show i = j by dsimp only at hi; omega]; exact hok, fun q => hf1 (by omega), fun q => by dsimp only at q; omega⟩ (by dsimp only; omega)) ⟨rfl, rfl, rfl, rfl, rfl, trivial⟩ (HS.cons rfl HS.last)
                  · skip
                    refine GE_skip ?_
                    refine GE_inBlock ?_
                    refine GE_plain (.st 0 (.ld 1 [] .nil)) rfl ?_
                    refine GT_st rfl rfl rfl rfl (V_add rfl rfl rfl (wrap_i64 (by omega))) ?_
                    refine GT_ldv rfl rfl rfl rfl rfl (V_move rfl rfl) (GR_nil) ?_
                    refine GT_nil ?_
                    first
                      | exact GE_to (ih2 (j + 1, en p (j - 1)) ⟨by dsimp only; omega, fun i hi => by rcases Nat.lt_or_ge i j with r | r; exact hps i r; rw [show i = j by dsimp only at hi; omega]; exact hok, fun q => by dsimp only at q; omega, fun _ => by dsimp only; rw [show j + 1 - 2 = j - 1 by omega]⟩ (by dsimp only; omega)) ⟨rfl, rfl, rfl, rfl, rfl, trivial⟩ (HS.cons rfl HS.last)
                      | exact GE_to (ih2 (j + 1, fr) ⟨by dsimp only; omega, fun i hi => by rcases Nat.lt_or_ge i j with r | r; exact hps i r; rw [show i = j by dsimp only at hi; omega]; exact hok, fun q => hf1 (by omega), fun q => by dsimp only at q; omega⟩ (by dsimp only; omega)) ⟨rfl, rfl, rfl, rfl, rfl, trivial⟩ (HS.cons rfl HS.last)
            · obtain rfl : j = p.length := (by omega)
              refine GE_exit rfl ?_
              refine GE_seq ?_
              refine GE_seq ?_
              refine GE_slots (L' := [(7, _)]) ⟨rfl, trivial⟩ ?_
              refine GE_plain (.st 0 (.st 1 (.st 2 (.st 3 (.st 4 .nil))))) rfl ?_
              refine GT_st rfl rfl rfl rfl (V_move rfl rfl) ?_
              first | refine GT_st rfl rfl rfl rfl (V_nilCheck rfl rfl) ?_ | refine GT_st rfl rfl rfl rfl (V_nilCheck_func rfl rfl) ?_ | refine GT_st rfl rfl rfl rfl (V_nilCheck_yield rfl rfl) ?_
              first | refine GT_st rfl rfl rfl rfl (V_field rfl rfl fo_71_2) ?_ | refine GT_st rfl rfl rfl rfl (V_fieldA rfl rfl fo_71_2) ?_
              refine GT_st rfl rfl rfl rfl (V_load rfl rfl ag_3 (CellAt.item rfl)) ?_
              refine GT_st rfl rfl rfl rfl (V_gtr rfl rfl rfl) ?_
              refine GT_nil ?_
              first | refine GE_condNot rfl (fun h11 => ?_) (fun h11 => ?_) | refine GE_cond rfl (fun h11 => ?_) (fun h11 => ?_) | refine GE_condNotB rfl (fun h11 => ?_) (fun h11 => ?_) | refine GE_condB rfl (fun h11 => ?_) (fun h11 => ?_)
              · skip
                refine GE_seq ?_
                refine GE_slots (L' := []) trivial ?_
                refine GE_plain (.st 0 (.st 1 .nil)) rfl ?_
                refine GT_st rfl rfl rfl rfl (V_assign rfl rfl) ?_
                refine GT_st rfl rfl rfl rfl (V_assign rfl rfl) ?_
                refine GT_nil ?_
                refine GE_ret Tryd.func24 ⟨_, _, rfl, rfl, rfl⟩ (fun w hw => ?_)
                have e : gErr l p = 15 := (by rw [gErr, if_pos h1, if_neg (by omega), if_pos hall, if_neg (fun hP => by have := hP.2; omega)]); exact .inr ⟨by omega, by rw [e], hw.nil⟩
              · skip
                refine GE_skip ?_
                refine GE_seq ?_
                refine GE_slots (L' := [(7, _)]) ⟨rfl, trivial⟩ ?_
                refine GE_plain (.st 0 (.st 1 (.st 2 .nil))) rfl ?_
                refine GT_st rfl rfl rfl rfl (V_move rfl rfl) ?_
                refine GT_st rfl rfl rfl rfl (V_assign rfl rfl) ?_
                refine GT_st rfl rfl rfl rfl (V_assign rfl rfl) ?_
                refine GT_nil ?_
                refine GE_ret Tryd.func24 ⟨_, _, rfl, rfl, rfl⟩ (fun w hw => ?_)
                first | exact .inl ⟨gErr_zero.2 ⟨hl, by omega, fun i hi => goodP_iff.1 (hgd i hi), hps, by omega⟩, b24, A', c', I', hO, rfl, hw⟩ | (have e : gErr l p = 15 := (by rw [gErr, if_pos h1, if_neg (by omega), if_pos hall, if_neg (fun hP => by have := hP.1 j hjl; unfold posOk at this; omega)]); exact .inr ⟨by omega, by rw [e], hw.nil⟩)
          · exact ⟨Nat.zero_le _, fun i hi => absurd hi (Nat.not_lt_zero _), fun _ => rfl, fun h => absurd h (by decide)⟩
      · exact ⟨Nat.zero_le _, fun i hi => absurd hi (Nat.not_lt_zero _), Own.nil⟩
end
end Go.Proofs.YtdcjgjopmicidaaDoor
