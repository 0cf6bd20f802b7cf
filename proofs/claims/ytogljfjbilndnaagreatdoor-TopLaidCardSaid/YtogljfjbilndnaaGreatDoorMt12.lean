/- Texts of this proof, one behind the other: Ta2, Ta3, Ta4, Fb, Th1, LaS, La1, LaT, La3, La4. -/
import Derived.Test.YtogljfjbilndnaaGreatDoorMt11
import Derived.Test.YtogljfjbilndnaaGreatDoorMt6
import Derived.Test.YtogljfjbilndnaaGreatDoorMt9
import Derived.Test.YtogljfjbilndnaaGreatDoorMt10
import Derived.Test.YtogljfjbilndnaaGreatDoorMt4
/- Parts and programmes: which are valid, walked. -/
namespace Go.Proofs.YtogljfjbilndnaaGreatDoor.Take
open Go.Sx Go.Proofs Go.RowKit

section
variable {w : World} {A A2 : Option Addr} {c c2 : Nat}
set_option maxRecDepth 10000 in
theorem C_good {l : List Tk} {x : Prt} {g : Nat} {X Y : Value} (h : Tks w A l) (hg : BlkAt w g [.slice A l.length c, X, Y] 131) :
    Con0 Tryz.prog 85 [ptr g 0, .agg #[I x.tk, I x.fr, I x.to, I x.gap, I x.inn, I x.out, I x.lev]] w (.bool (goodP l x)) := by
  have hd : ∀ q : Bool, (((0 ≤ x.tk ∧ x.tk < (l.length : Int)) ∧ 0 ≤ x.fr ∧ x.fr < x.to ∧ x.to ≤ ((tkOf l x).data.length : Int) ∧ betw x.gap (-4096) 4096 = true ∧ betw x.inn 0 1000 = true ∧ betw x.out 0 1000 = true ∧ betw x.lev 0 4000 = true) ↔ q = true) → Value.bool q = Value.bool (goodP l x) := fun q hq => congrArg Value.bool (by rw [Bool.eq_iff_iff, ← hq, goodP]; simp only [Bool.and_eq_true, decide_eq_true_iff]; simp only [and_assoc])
  refine Ret_of (vs := [_, _]) hm none' Tryz.func85 rfl Tryz.ntmps85 rfl ?_
  dsimp only [slotsOf]
  refine GE_seq ?_
  refine GE_plain (.ld 0 [] (.st 1 .nil)) rfl ?_
  refine GT_box (z := [_, _, _, _, _, _, _]) rfl rfl rfl rfl rfl rfl rfl (fun _ => GR_nil) (fun b3 => ?_)
  refine GT_st rfl rfl rfl rfl (V_assign rfl rfl) ?_
  refine GT_nil ?_
  refine GE_seq ?_
  refine GE_seq ?_
  refine GE_drawn (.st 0 (.st 1 (.st 2 (.st 3 (.st 4 (.st 5 (.st 6 (.st 7 (.st 8 (.st 9 (.st 10 (.st 11 (.st 12 (.st 13 (.st 14 (.st 15 (.st 16 (.st 17 (.st 18 (.st 19 (.st 20 (.st 21 (.st 22 (.st 23 (.st 24 (.st 25 (.st 26 (.st 27 (.st 28 (.st 29 (.st 30 (.st 31 (.st 32 (.st 33 (.st 34 (.st 35 (.st 36 (.st 37 (.st 38 (.st 39 .nil)))))))))))))))))))))))))))))))))))))))) [] (by decide +kernel) ?_
  first | refine GT_st rfl rfl rfl rfl (V_field rfl rfl fo_92_0) ?_ | refine GT_st rfl rfl rfl rfl (V_fieldA rfl rfl fo_92_0) ?_
  refine GT_st rfl rfl rfl rfl (V_load rfl rfl ag_3 (CellAt.item rfl)) ?_
  refine GT_st rfl rfl rfl rfl (V_lss rfl rfl rfl) ?_
  refine GT_st rfl rfl rfl rfl (V_move rfl rfl) ?_
  first | refine GT_splitNot (d := 8) rfl (fun h1 => ?_) (fun h1 => ?_) | refine GT_split (d := 8) rfl (fun h1 => ?_) (fun h1 => ?_) | refine GT_splitNotB (d := 8) rfl (fun h1 => ?_) (fun h1 => ?_) | refine GT_splitB (d := 8) rfl (fun h1 => ?_) (fun h1 => ?_)
  · skip
    refine GT_skip rfl rfl rfl rfl rfl (by decide) rfl rfl ?_
    refine GT_skip rfl rfl rfl rfl rfl (by decide) rfl rfl ?_
    refine GT_skip rfl rfl rfl rfl rfl (by decide) rfl rfl ?_
    refine GT_skip rfl rfl rfl rfl rfl (by decide) rfl rfl ?_
    refine GT_skip rfl rfl rfl rfl rfl (by decide) rfl rfl ?_
    refine GT_skip rfl rfl rfl rfl rfl (by decide) rfl rfl ?_
    refine GT_skip rfl rfl rfl rfl rfl (by decide) rfl rfl ?_
    refine GT_skip rfl rfl rfl rfl rfl (by decide) rfl rfl ?_
    refine GT_st rfl rfl rfl rfl (V_pick_t rfl rfl rfl) ?_
    refine GT_st rfl rfl rfl rfl (V_move rfl rfl) ?_
    refine GT_skip rfl rfl rfl rfl rfl (by decide) rfl rfl ?_
    refine GT_skip rfl rfl rfl rfl rfl (by decide) rfl rfl ?_
    refine GT_skip rfl rfl rfl rfl rfl (by decide) rfl rfl ?_
    refine GT_st rfl rfl rfl rfl (V_pick_t rfl rfl rfl) ?_
    refine GT_st rfl rfl rfl rfl (V_move rfl rfl) ?_
    refine GT_skip rfl rfl rfl rfl rfl (by decide) rfl rfl ?_
    refine GT_skip rfl rfl rfl rfl rfl (by decide) rfl rfl ?_
    refine GT_skip rfl rfl rfl rfl rfl (by decide) rfl rfl ?_
    refine GT_skip rfl rfl rfl rfl rfl (by decide) rfl rfl ?_
    refine GT_skip rfl rfl rfl rfl rfl (by decide) rfl rfl ?_
    refine GT_st rfl rfl rfl rfl (V_pick_t rfl rfl rfl) ?_
    refine GT_st rfl rfl rfl rfl (V_move rfl rfl) ?_
    refine GT_skip rfl rfl rfl rfl rfl (by decide) rfl rfl ?_
    refine GT_skip rfl rfl rfl rfl rfl (by decide) rfl rfl ?_
    refine GT_skip rfl rfl rfl rfl rfl (by decide) rfl rfl ?_
    refine GT_skip rfl rfl rfl rfl rfl (by decide) rfl rfl ?_
    refine GT_skip rfl rfl rfl rfl rfl (by decide) rfl rfl ?_
    refine GT_skip rfl rfl rfl rfl rfl (by decide) rfl rfl ?_
    refine GT_skip rfl rfl rfl rfl rfl (by decide) rfl rfl ?_
    refine GT_skip rfl rfl rfl rfl rfl (by decide) rfl rfl ?_
    refine GT_skip rfl rfl rfl rfl rfl (by decide) rfl rfl ?_
    refine GT_skip rfl rfl rfl rfl rfl (by decide) rfl rfl ?_
    refine GT_skip rfl rfl rfl rfl rfl (by decide) rfl rfl ?_
    refine GT_skip rfl rfl rfl rfl rfl (by decide) rfl rfl ?_
    refine GT_skip rfl rfl rfl rfl rfl (by decide) rfl rfl ?_
    refine GT_st rfl rfl rfl rfl (V_pick_t rfl rfl rfl) ?_
    refine GT_nil ?_
    refine GE_cond_t rfl ?_
    refine GE_seq ?_
    refine GE_slots (L' := []) trivial ?_
    refine GE_plain (.st 0 .nil) rfl ?_
    refine GT_st rfl rfl rfl rfl (V_assign rfl rfl) ?_
    refine GT_nil ?_
    refine GE_ret Tryz.func85 rfl (fun w hw => ⟨?_, hw.nil⟩)
    refine hd _ ?_; first | exact ⟨fun ⟨⟨a1, a2⟩, a3, a4, a5, a6, a7, a8, a9⟩ => (by first | omega | (unfold tkOf at a5; omega) | exact absurd (h6.symm.trans a6) (by decide) | exact absurd (h7.symm.trans a7) (by decide) | exact absurd (h8.symm.trans a8) (by decide)), fun a => by cases a⟩ | exact ⟨fun a => a.2.2.2.2.2.2.2, fun a => ⟨⟨by omega, by omega⟩, by omega, by omega, by unfold tkOf; omega, h6, h7, h8, a⟩⟩
  · skip
    first | refine GT_st_g rfl rfl rfl rfl rfl rfl rfl (V_field rfl rfl fo_92_0) ?_ | refine GT_st_g rfl rfl rfl rfl rfl rfl rfl (V_fieldA rfl rfl fo_92_0) ?_
    refine GT_st_g rfl rfl rfl rfl rfl rfl rfl (V_load rfl rfl ag_3 (CellAt.item rfl)) ?_
    refine GT_st_g rfl rfl rfl rfl rfl rfl rfl (V_move rfl rfl) ?_
    first | refine GT_st_g rfl rfl rfl rfl rfl rfl rfl (V_nilCheck rfl rfl) ?_ | refine GT_st_g rfl rfl rfl rfl rfl rfl rfl (V_nilCheck_func rfl rfl) ?_ | refine GT_st_g rfl rfl rfl rfl rfl rfl rfl (V_nilCheck_yield rfl rfl) ?_
    first | refine GT_st_g rfl rfl rfl rfl rfl rfl rfl (V_field rfl rfl fo_131_0) ?_ | refine GT_st_g rfl rfl rfl rfl rfl rfl rfl (V_fieldA rfl rfl fo_131_0) ?_
    refine GT_st_g rfl rfl rfl rfl rfl rfl rfl (V_load rfl rfl ag_90 (.old (hg.cell rfl) (noM _))) ?_
    refine GT_st_g rfl rfl rfl rfl rfl rfl rfl (V_len rfl Tryz.underlying90 rfl) ?_
    refine GT_st_g rfl rfl rfl rfl rfl rfl rfl (V_geq rfl rfl rfl) ?_
    refine GT_st rfl rfl rfl rfl (V_pick_f rfl rfl rfl) ?_
    refine GT_st rfl rfl rfl rfl (V_move rfl rfl) ?_
    first | refine GT_splitNot (d := 18) rfl (fun h2 => ?_) (fun h2 => ?_) | refine GT_split (d := 18) rfl (fun h2 => ?_) (fun h2 => ?_) | refine GT_splitNotB (d := 18) rfl (fun h2 => ?_) (fun h2 => ?_) | refine GT_splitB (d := 18) rfl (fun h2 => ?_) (fun h2 => ?_)
    · skip
      refine GT_skip rfl rfl rfl rfl rfl (by decide) rfl rfl ?_
      refine GT_skip rfl rfl rfl rfl rfl (by decide) rfl rfl ?_
      refine GT_skip rfl rfl rfl rfl rfl (by decide) rfl rfl ?_
      refine GT_st rfl rfl rfl rfl (V_pick_t rfl rfl rfl) ?_
      refine GT_st rfl rfl rfl rfl (V_move rfl rfl) ?_
      refine GT_skip rfl rfl rfl rfl rfl (by decide) rfl rfl ?_
      refine GT_skip rfl rfl rfl rfl rfl (by decide) rfl rfl ?_
      refine GT_skip rfl rfl rfl rfl rfl (by decide) rfl rfl ?_
      refine GT_skip rfl rfl rfl rfl rfl (by decide) rfl rfl ?_
      refine GT_skip rfl rfl rfl rfl rfl (by decide) rfl rfl ?_
      refine GT_st rfl rfl rfl rfl (V_pick_t rfl rfl rfl) ?_
      refine GT_st rfl rfl rfl rfl (V_move rfl rfl) ?_
      refine GT_skip rfl rfl rfl rfl rfl (by decide) rfl rfl ?_
      refine GT_skip rfl rfl rfl rfl rfl (by decide) rfl rfl ?_
      refine GT_skip rfl rfl rfl rfl rfl (by decide) rfl rfl ?_
      refine GT_skip rfl rfl rfl rfl rfl (by decide) rfl rfl ?_
      refine GT_skip rfl rfl rfl rfl rfl (by decide) rfl rfl ?_
      refine GT_skip rfl rfl rfl rfl rfl (by decide) rfl rfl ?_
      refine GT_skip rfl rfl rfl rfl rfl (by decide) rfl rfl ?_
      refine GT_skip rfl rfl rfl rfl rfl (by decide) rfl rfl ?_
      refine GT_skip rfl rfl rfl rfl rfl (by decide) rfl rfl ?_
      refine GT_skip rfl rfl rfl rfl rfl (by decide) rfl rfl ?_
      refine GT_skip rfl rfl rfl rfl rfl (by decide) rfl rfl ?_
      refine GT_skip rfl rfl rfl rfl rfl (by decide) rfl rfl ?_
      refine GT_skip rfl rfl rfl rfl rfl (by decide) rfl rfl ?_
      refine GT_st rfl rfl rfl rfl (V_pick_t rfl rfl rfl) ?_
      refine GT_nil ?_
      refine GE_cond_t rfl ?_
      refine GE_seq ?_
      refine GE_slots (L' := []) trivial ?_
      refine GE_plain (.st 0 .nil) rfl ?_
      refine GT_st rfl rfl rfl rfl (V_assign rfl rfl) ?_
      refine GT_nil ?_
      refine GE_ret Tryz.func85 rfl (fun w hw => ⟨?_, hw.nil⟩)
      refine hd _ ?_; first | exact ⟨fun ⟨⟨a1, a2⟩, a3, a4, a5, a6, a7, a8, a9⟩ => (by first | omega | (unfold tkOf at a5; omega) | exact absurd (h6.symm.trans a6) (by decide) | exact absurd (h7.symm.trans a7) (by decide) | exact absurd (h8.symm.trans a8) (by decide)), fun a => by cases a⟩ | exact ⟨fun a => a.2.2.2.2.2.2.2, fun a => ⟨⟨by omega, by omega⟩, by omega, by omega, by unfold tkOf; omega, h6, h7, h8, a⟩⟩
    · skip
      first | refine GT_st_g rfl rfl rfl rfl rfl rfl rfl (V_field rfl rfl fo_92_1) ?_ | refine GT_st_g rfl rfl rfl rfl rfl rfl rfl (V_fieldA rfl rfl fo_92_1) ?_
      refine GT_st_g rfl rfl rfl rfl rfl rfl rfl (V_load rfl rfl ag_3 (CellAt.item rfl)) ?_
      refine GT_st_g rfl rfl rfl rfl rfl rfl rfl (V_lss rfl rfl rfl) ?_
      refine GT_st rfl rfl rfl rfl (V_pick_f rfl rfl rfl) ?_
      refine GT_st rfl rfl rfl rfl (V_move rfl rfl) ?_
      first | refine GT_splitNot (d := 23) rfl (fun h3 => ?_) (fun h3 => ?_) | refine GT_split (d := 23) rfl (fun h3 => ?_) (fun h3 => ?_) | refine GT_splitNotB (d := 23) rfl (fun h3 => ?_) (fun h3 => ?_) | refine GT_splitB (d := 23) rfl (fun h3 => ?_) (fun h3 => ?_)
      · skip
        refine GT_skip rfl rfl rfl rfl rfl (by decide) rfl rfl ?_
        refine GT_skip rfl rfl rfl rfl rfl (by decide) rfl rfl ?_
        refine GT_skip rfl rfl rfl rfl rfl (by decide) rfl rfl ?_
        refine GT_skip rfl rfl rfl rfl rfl (by decide) rfl rfl ?_
        refine GT_skip rfl rfl rfl rfl rfl (by decide) rfl rfl ?_
        refine GT_st rfl rfl rfl rfl (V_pick_t rfl rfl rfl) ?_
        refine GT_st rfl rfl rfl rfl (V_move rfl rfl) ?_
        refine GT_skip rfl rfl rfl rfl rfl (by decide) rfl rfl ?_
        refine GT_skip rfl rfl rfl rfl rfl (by decide) rfl rfl ?_
        refine GT_skip rfl rfl rfl rfl rfl (by decide) rfl rfl ?_
        refine GT_skip rfl rfl rfl rfl rfl (by decide) rfl rfl ?_
        refine GT_skip rfl rfl rfl rfl rfl (by decide) rfl rfl ?_
        refine GT_skip rfl rfl rfl rfl rfl (by decide) rfl rfl ?_
        refine GT_skip rfl rfl rfl rfl rfl (by decide) rfl rfl ?_
        refine GT_skip rfl rfl rfl rfl rfl (by decide) rfl rfl ?_
        refine GT_skip rfl rfl rfl rfl rfl (by decide) rfl rfl ?_
        refine GT_skip rfl rfl rfl rfl rfl (by decide) rfl rfl ?_
        refine GT_skip rfl rfl rfl rfl rfl (by decide) rfl rfl ?_
        refine GT_skip rfl rfl rfl rfl rfl (by decide) rfl rfl ?_
        refine GT_skip rfl rfl rfl rfl rfl (by decide) rfl rfl ?_
        refine GT_st rfl rfl rfl rfl (V_pick_t rfl rfl rfl) ?_
        refine GT_nil ?_
        refine GE_cond_t rfl ?_
        refine GE_seq ?_
        refine GE_slots (L' := []) trivial ?_
        refine GE_plain (.st 0 .nil) rfl ?_
        refine GT_st rfl rfl rfl rfl (V_assign rfl rfl) ?_
        refine GT_nil ?_
        refine GE_ret Tryz.func85 rfl (fun w hw => ⟨?_, hw.nil⟩)
        refine hd _ ?_; first | exact ⟨fun ⟨⟨a1, a2⟩, a3, a4, a5, a6, a7, a8, a9⟩ => (by first | omega | (unfold tkOf at a5; omega) | exact absurd (h6.symm.trans a6) (by decide) | exact absurd (h7.symm.trans a7) (by decide) | exact absurd (h8.symm.trans a8) (by decide)), fun a => by cases a⟩ | exact ⟨fun a => a.2.2.2.2.2.2.2, fun a => ⟨⟨by omega, by omega⟩, by omega, by omega, by unfold tkOf; omega, h6, h7, h8, a⟩⟩
      · skip
        first | refine GT_st_g rfl rfl rfl rfl rfl rfl rfl (V_field rfl rfl fo_92_1) ?_ | refine GT_st_g rfl rfl rfl rfl rfl rfl rfl (V_fieldA rfl rfl fo_92_1) ?_
        refine GT_st_g rfl rfl rfl rfl rfl rfl rfl (V_load rfl rfl ag_3 (CellAt.item rfl)) ?_
        first | refine GT_st_g rfl rfl rfl rfl rfl rfl rfl (V_field rfl rfl fo_92_2) ?_ | refine GT_st_g rfl rfl rfl rfl rfl rfl rfl (V_fieldA rfl rfl fo_92_2) ?_
        refine GT_st_g rfl rfl rfl rfl rfl rfl rfl (V_load rfl rfl ag_3 (CellAt.item rfl)) ?_
        refine GT_st_g rfl rfl rfl rfl rfl rfl rfl (V_geq rfl rfl rfl) ?_
        refine GT_st rfl rfl rfl rfl (V_pick_f rfl rfl rfl) ?_
        refine GT_st rfl rfl rfl rfl (V_move rfl rfl) ?_
        first | refine GT_splitNot (d := 30) rfl (fun h4 => ?_) (fun h4 => ?_) | refine GT_split (d := 30) rfl (fun h4 => ?_) (fun h4 => ?_) | refine GT_splitNotB (d := 30) rfl (fun h4 => ?_) (fun h4 => ?_) | refine GT_splitB (d := 30) rfl (fun h4 => ?_) (fun h4 => ?_)
        · skip
          refine GT_skip rfl rfl rfl rfl rfl (by decide) rfl rfl ?_
          refine GT_skip rfl rfl rfl rfl rfl (by decide) rfl rfl ?_
          refine GT_skip rfl rfl rfl rfl rfl (by decide) rfl rfl ?_
          refine GT_skip rfl rfl rfl rfl rfl (by decide) rfl rfl ?_
          refine GT_skip rfl rfl rfl rfl rfl (by decide) rfl rfl ?_
          refine GT_skip rfl rfl rfl rfl rfl (by decide) rfl rfl ?_
          refine GT_skip rfl rfl rfl rfl rfl (by decide) rfl rfl ?_
          refine GT_skip rfl rfl rfl rfl rfl (by decide) rfl rfl ?_
          refine GT_skip rfl rfl rfl rfl rfl (by decide) rfl rfl ?_
          refine GT_skip rfl rfl rfl rfl rfl (by decide) rfl rfl ?_
          refine GT_skip rfl rfl rfl rfl rfl (by decide) rfl rfl ?_
          refine GT_skip rfl rfl rfl rfl rfl (by decide) rfl rfl ?_
          refine GT_skip rfl rfl rfl rfl rfl (by decide) rfl rfl ?_
          refine GT_st rfl rfl rfl rfl (V_pick_t rfl rfl rfl) ?_
          refine GT_nil ?_
          refine GE_cond_t rfl ?_
          refine GE_seq ?_
          refine GE_slots (L' := []) trivial ?_
          refine GE_plain (.st 0 .nil) rfl ?_
          refine GT_st rfl rfl rfl rfl (V_assign rfl rfl) ?_
          refine GT_nil ?_
          refine GE_ret Tryz.func85 rfl (fun w hw => ⟨?_, hw.nil⟩)
          refine hd _ ?_; first | exact ⟨fun ⟨⟨a1, a2⟩, a3, a4, a5, a6, a7, a8, a9⟩ => (by first | omega | (unfold tkOf at a5; omega) | exact absurd (h6.symm.trans a6) (by decide) | exact absurd (h7.symm.trans a7) (by decide) | exact absurd (h8.symm.trans a8) (by decide)), fun a => by cases a⟩ | exact ⟨fun a => a.2.2.2.2.2.2.2, fun a => ⟨⟨by omega, by omega⟩, by omega, by omega, by unfold tkOf; omega, h6, h7, h8, a⟩⟩
        · have hk : x.tk.toNat < l.length := (by omega)
          first | refine GT_st_g rfl rfl rfl rfl rfl rfl rfl (V_field rfl rfl fo_92_2) ?_ | refine GT_st_g rfl rfl rfl rfl rfl rfl rfl (V_fieldA rfl rfl fo_92_2) ?_
          refine GT_st_g rfl rfl rfl rfl rfl rfl rfl (V_load rfl rfl ag_3 (CellAt.item rfl)) ?_
          refine GT_st_g rfl rfl rfl rfl rfl rfl rfl (V_move rfl rfl) ?_
          first | refine GT_st_g rfl rfl rfl rfl rfl rfl rfl (V_nilCheck rfl rfl) ?_ | refine GT_st_g rfl rfl rfl rfl rfl rfl rfl (V_nilCheck_func rfl rfl) ?_ | refine GT_st_g rfl rfl rfl rfl rfl rfl rfl (V_nilCheck_yield rfl rfl) ?_
          first | refine GT_st_g rfl rfl rfl rfl rfl rfl rfl (V_field rfl rfl fo_131_0) ?_ | refine GT_st_g rfl rfl rfl rfl rfl rfl rfl (V_fieldA rfl rfl fo_131_0) ?_
          refine GT_st_g rfl rfl rfl rfl rfl rfl rfl (V_load rfl rfl ag_90 (.old (hg.cell rfl) (noM _))) ?_
          first | refine GT_st_g rfl rfl rfl rfl rfl rfl rfl (V_field rfl rfl fo_92_0) ?_ | refine GT_st_g rfl rfl rfl rfl rfl rfl rfl (V_fieldA rfl rfl fo_92_0) ?_
          refine GT_st_g rfl rfl rfl rfl rfl rfl rfl (V_load rfl rfl ag_3 (CellAt.item rfl)) ?_
          refine GT_st_g rfl rfl rfl rfl rfl rfl rfl (V_index rfl rfl rfl Tryz.underlying90 sz_89 (k := x.tk.toNat) (by omega) hk (h.1.isSome hk)) ?_
          first | refine GT_st_g rfl rfl rfl rfl rfl rfl rfl (V_field rfl rfl fo_89_1) ?_ | refine GT_st_g rfl rfl rfl rfl rfl rfl rfl (V_fieldA rfl rfl fo_89_1) ?_
          refine GT_st_g rfl rfl rfl rfl rfl rfl rfl (V_load rfl rfl ag_81 (h.1.at1 noM hk rfl)) ?_
          refine GT_st_g rfl rfl rfl rfl rfl rfl rfl (V_len rfl Tryz.underlying81 rfl) ?_
          refine GT_st_g rfl rfl rfl rfl rfl rfl rfl (V_gtr rfl rfl rfl) ?_
          refine GT_st rfl rfl rfl rfl (V_pick_f rfl rfl rfl) ?_
          refine GT_nil ?_
          first | refine GE_condNot rfl (fun h5 => ?_) (fun h5 => ?_) | refine GE_cond rfl (fun h5 => ?_) (fun h5 => ?_) | refine GE_condNotB rfl (fun h5 => ?_) (fun h5 => ?_) | refine GE_condB rfl (fun h5 => ?_) (fun h5 => ?_)
          · skip
            refine GE_seq ?_
            refine GE_slots (L' := []) trivial ?_
            refine GE_plain (.st 0 .nil) rfl ?_
            refine GT_st rfl rfl rfl rfl (V_assign rfl rfl) ?_
            refine GT_nil ?_
            refine GE_ret Tryz.func85 rfl (fun w hw => ⟨?_, hw.nil⟩)
            refine hd _ ?_; first | exact ⟨fun ⟨⟨a1, a2⟩, a3, a4, a5, a6, a7, a8, a9⟩ => (by first | omega | (unfold tkOf at a5; omega) | exact absurd (h6.symm.trans a6) (by decide) | exact absurd (h7.symm.trans a7) (by decide) | exact absurd (h8.symm.trans a8) (by decide)), fun a => by cases a⟩ | exact ⟨fun a => a.2.2.2.2.2.2.2, fun a => ⟨⟨by omega, by omega⟩, by omega, by omega, by unfold tkOf; omega, h6, h7, h8, a⟩⟩
          · skip
            refine GE_skip ?_
            refine GE_seq ?_
            refine GE_slots (L' := [(3, _)]) ⟨rfl, trivial⟩ ?_
            refine GE_plain (.st 0 (.st 1 (.ld 2 [] (.st 3 (.st 4 (.st 5 (.ld 6 [] (.st 7 (.st 8 (.st 9 (.st 10 (.ld 11 [] (.st 12 (.st 13 (.st 14 (.st 15 (.ld 16 [] (.st 17 (.st 18 .nil))))))))))))))))))) rfl ?_
            first | refine GT_st rfl rfl rfl rfl (V_field rfl rfl fo_92_3) ?_ | refine GT_st rfl rfl rfl rfl (V_fieldA rfl rfl fo_92_3) ?_
            refine GT_st rfl rfl rfl rfl (V_load rfl rfl ag_3 (CellAt.item rfl)) ?_
            refine GT_call0 rfl rfl rfl rfl rfl rfl rfl rfl rn_98 (fun w hw => C_between) (GR_nil) ?_
            refine GT_st rfl rfl rfl rfl (V_move rfl rfl) ?_
            first | refine GT_splitNot (d := 48) rfl (fun h6 => ?_) (fun h6 => ?_) | refine GT_split (d := 48) rfl (fun h6 => ?_) (fun h6 => ?_) | refine GT_splitNotB (d := 48) rfl (fun h6 => ?_) (fun h6 => ?_) | refine GT_splitB (d := 48) rfl (fun h6 => ?_) (fun h6 => ?_)
            · skip
              first | refine GT_st_g rfl rfl rfl rfl rfl rfl rfl (V_field rfl rfl fo_92_4) ?_ | refine GT_st_g rfl rfl rfl rfl rfl rfl rfl (V_fieldA rfl rfl fo_92_4) ?_
              refine GT_st_g rfl rfl rfl rfl rfl rfl rfl (V_load rfl rfl ag_3 (CellAt.item rfl)) ?_
              refine GT_call0_g rfl rfl rfl rfl rfl rfl rfl rfl rfl rfl rfl rn_98 (fun w hw => C_between) (GR_nil) ?_
              refine GT_st rfl rfl rfl rfl (V_pick_t rfl rfl rfl) ?_
              refine GT_st rfl rfl rfl rfl (V_move rfl rfl) ?_
              first | refine GT_splitNot (d := 53) rfl (fun h7 => ?_) (fun h7 => ?_) | refine GT_split (d := 53) rfl (fun h7 => ?_) (fun h7 => ?_) | refine GT_splitNotB (d := 53) rfl (fun h7 => ?_) (fun h7 => ?_) | refine GT_splitB (d := 53) rfl (fun h7 => ?_) (fun h7 => ?_)
              · skip
                first | refine GT_st_g rfl rfl rfl rfl rfl rfl rfl (V_field rfl rfl fo_92_5) ?_ | refine GT_st_g rfl rfl rfl rfl rfl rfl rfl (V_fieldA rfl rfl fo_92_5) ?_
                refine GT_st_g rfl rfl rfl rfl rfl rfl rfl (V_load rfl rfl ag_3 (CellAt.item rfl)) ?_
                refine GT_call0_g rfl rfl rfl rfl rfl rfl rfl rfl rfl rfl rfl rn_98 (fun w hw => C_between) (GR_nil) ?_
                refine GT_st rfl rfl rfl rfl (V_pick_t rfl rfl rfl) ?_
                refine GT_st rfl rfl rfl rfl (V_move rfl rfl) ?_
                first | refine GT_splitNot (d := 58) rfl (fun h8 => ?_) (fun h8 => ?_) | refine GT_split (d := 58) rfl (fun h8 => ?_) (fun h8 => ?_) | refine GT_splitNotB (d := 58) rfl (fun h8 => ?_) (fun h8 => ?_) | refine GT_splitB (d := 58) rfl (fun h8 => ?_) (fun h8 => ?_)
                · skip
                  first | refine GT_st_g rfl rfl rfl rfl rfl rfl rfl (V_field rfl rfl fo_92_6) ?_ | refine GT_st_g rfl rfl rfl rfl rfl rfl rfl (V_fieldA rfl rfl fo_92_6) ?_
                  refine GT_st_g rfl rfl rfl rfl rfl rfl rfl (V_load rfl rfl ag_2 (CellAt.item rfl)) ?_
                  refine GT_call0_g rfl rfl rfl rfl rfl rfl rfl rfl rfl rfl rfl rn_98 (fun w hw => C_between) (GR_nil) ?_
                  refine GT_st rfl rfl rfl rfl (V_pick_t rfl rfl rfl) ?_
                  refine GT_st rfl rfl rfl rfl (V_assign rfl rfl) ?_
                  refine GT_nil ?_
                  refine GE_ret Tryz.func85 rfl (fun w hw => ⟨?_, hw.nil⟩)
                  refine hd _ ?_; first | exact ⟨fun ⟨⟨a1, a2⟩, a3, a4, a5, a6, a7, a8, a9⟩ => (by first | omega | (unfold tkOf at a5; omega) | exact absurd (h6.symm.trans a6) (by decide) | exact absurd (h7.symm.trans a7) (by decide) | exact absurd (h8.symm.trans a8) (by decide)), fun a => by cases a⟩ | exact ⟨fun a => a.2.2.2.2.2.2.2, fun a => ⟨⟨by omega, by omega⟩, by omega, by omega, by unfold tkOf; omega, h6, h7, h8, a⟩⟩
                · skip
                  refine GT_skip rfl rfl rfl rfl rfl (by decide) rfl rfl ?_
                  refine GT_skip rfl rfl rfl rfl rfl (by decide) rfl rfl ?_
                  refine GT_skip_ld rfl rfl rfl rfl rfl (by decide) rfl rfl rfl (GR_nil) ?_
                  refine GT_st rfl rfl rfl rfl (V_pick_f rfl rfl rfl) ?_
                  refine GT_st rfl rfl rfl rfl (V_assign rfl rfl) ?_
                  refine GT_nil ?_
                  refine GE_ret Tryz.func85 rfl (fun w hw => ⟨?_, hw.nil⟩)
                  refine hd _ ?_; first | exact ⟨fun ⟨⟨a1, a2⟩, a3, a4, a5, a6, a7, a8, a9⟩ => (by first | omega | (unfold tkOf at a5; omega) | exact absurd (h6.symm.trans a6) (by decide) | exact absurd (h7.symm.trans a7) (by decide) | exact absurd (h8.symm.trans a8) (by decide)), fun a => by cases a⟩ | exact ⟨fun a => a.2.2.2.2.2.2.2, fun a => ⟨⟨by omega, by omega⟩, by omega, by omega, by unfold tkOf; omega, h6, h7, h8, a⟩⟩
              · skip
                refine GT_skip rfl rfl rfl rfl rfl (by decide) rfl rfl ?_
                refine GT_skip rfl rfl rfl rfl rfl (by decide) rfl rfl ?_
                refine GT_skip_ld rfl rfl rfl rfl rfl (by decide) rfl rfl rfl (GR_nil) ?_
                refine GT_st rfl rfl rfl rfl (V_pick_f rfl rfl rfl) ?_
                refine GT_st rfl rfl rfl rfl (V_move rfl rfl) ?_
                refine GT_skip rfl rfl rfl rfl rfl (by decide) rfl rfl ?_
                refine GT_skip rfl rfl rfl rfl rfl (by decide) rfl rfl ?_
                refine GT_skip_ld rfl rfl rfl rfl rfl (by decide) rfl rfl rfl (GR_nil) ?_
                refine GT_st rfl rfl rfl rfl (V_pick_f rfl rfl rfl) ?_
                refine GT_st rfl rfl rfl rfl (V_assign rfl rfl) ?_
                refine GT_nil ?_
                refine GE_ret Tryz.func85 rfl (fun w hw => ⟨?_, hw.nil⟩)
                refine hd _ ?_; first | exact ⟨fun ⟨⟨a1, a2⟩, a3, a4, a5, a6, a7, a8, a9⟩ => (by first | omega | (unfold tkOf at a5; omega) | exact absurd (h6.symm.trans a6) (by decide) | exact absurd (h7.symm.trans a7) (by decide) | exact absurd (h8.symm.trans a8) (by decide)), fun a => by cases a⟩ | exact ⟨fun a => a.2.2.2.2.2.2.2, fun a => ⟨⟨by omega, by omega⟩, by omega, by omega, by unfold tkOf; omega, h6, h7, h8, a⟩⟩
            · skip
              refine GT_skip rfl rfl rfl rfl rfl (by decide) rfl rfl ?_
              refine GT_skip rfl rfl rfl rfl rfl (by decide) rfl rfl ?_
              refine GT_skip_ld rfl rfl rfl rfl rfl (by decide) rfl rfl rfl (GR_nil) ?_
              refine GT_st rfl rfl rfl rfl (V_pick_f rfl rfl rfl) ?_
              refine GT_st rfl rfl rfl rfl (V_move rfl rfl) ?_
              refine GT_skip rfl rfl rfl rfl rfl (by decide) rfl rfl ?_
              refine GT_skip rfl rfl rfl rfl rfl (by decide) rfl rfl ?_
              refine GT_skip_ld rfl rfl rfl rfl rfl (by decide) rfl rfl rfl (GR_nil) ?_
              refine GT_st rfl rfl rfl rfl (V_pick_f rfl rfl rfl) ?_
              refine GT_st rfl rfl rfl rfl (V_move rfl rfl) ?_
              refine GT_skip rfl rfl rfl rfl rfl (by decide) rfl rfl ?_
              refine GT_skip rfl rfl rfl rfl rfl (by decide) rfl rfl ?_
              refine GT_skip_ld rfl rfl rfl rfl rfl (by decide) rfl rfl rfl (GR_nil) ?_
              refine GT_st rfl rfl rfl rfl (V_pick_f rfl rfl rfl) ?_
              refine GT_st rfl rfl rfl rfl (V_assign rfl rfl) ?_
              refine GT_nil ?_
              refine GE_ret Tryz.func85 rfl (fun w hw => ⟨?_, hw.nil⟩)
              refine hd _ ?_; first | exact ⟨fun ⟨⟨a1, a2⟩, a3, a4, a5, a6, a7, a8, a9⟩ => (by first | omega | (unfold tkOf at a5; omega) | exact absurd (h6.symm.trans a6) (by decide) | exact absurd (h7.symm.trans a7) (by decide) | exact absurd (h8.symm.trans a8) (by decide)), fun a => by cases a⟩ | exact ⟨fun a => a.2.2.2.2.2.2.2, fun a => ⟨⟨by omega, by omega⟩, by omega, by omega, by unfold tkOf; omega, h6, h7, h8, a⟩⟩
theorem fin_bd {l : List Tk} {p : List Prt} (hl : TksOk l) : ∀ k, k ≤ p.length → (∀ i, i < k → goodP l (pt p i) = true) → -8192 * (k : Int) ≤ fin (p.take k) ∧ fin (p.take k) ≤ 8192 * k := by
  intro k
  induction k with
  | zero => intro _ _; rw [List.take_zero]; exact ⟨by simp [fin], by simp [fin]⟩
  | succ k ih =>
    intro hk hg
    have h1 := ih (by omega) (fun i hi => hg i (by omega))
    have h2 := goodP_iff.1 (hg k (by omega))
    have h3 := h2.frto
    have h4 := h2.fr0
    have h5 := h2.to1
    have h6 := h2.gap
    have h7 : (tkOf l (pt p k)).data.length ≤ 4096 := by
      have a := h2.tk0; have b := h2.tk1
      exact (tErr_zero.1 (hl.each _ (getD_mem (i := (pt p k).tk.toNat) (by omega)))).1
    rw [fin_take (by omega)]
    unfold en bgn lng
    omega
def NewR (l : List Tk) (p : List Prt) (A : Option Addr) (c : Nat) (w : World) (v : Value) (w' : World) : Prop :=
  (gErr l p = 0 ∧ ∃ (b : Nat) (A' : Option Addr) (c' : Nat) (I' : Items), Own 10 133 ePlc (plcs p p.length) (.slice A' p.length c') I' ∧ v = .tuple #[ptr b 0, I 0] ∧ SH w none' ((b, blk [.slice A l.length c, .slice A' p.length c', I (fin p)] 131) :: I') w') ∨
  (gErr l p ≠ 0 ∧ v = .tuple #[.pointer none, I (gErr l p)] ∧ SH w none' [] w')
set_option maxRecDepth 10000 in
set_option maxHeartbeats 2000000 in
theorem C_new {l : List Tk} {p : List Prt} (h : Tks w A l) (hp : RdL w 7 ePrt A2 p) : Ret Tryz.prog 49 #[.slice A l.length c, .slice A2 p.length c2] w (NewR l p A c w) := by
  refine Ret_of (vs := [_, _]) hm none' Tryz.func49 rfl Tryz.ntmps49 rfl ?_
  dsimp only [slotsOf]
  refine GE_seq ?_
  refine GE_plain (.st 0 (.st 1 .nil)) rfl ?_
  refine GT_st rfl rfl rfl rfl (V_assign rfl rfl) ?_
  refine GT_st rfl rfl rfl rfl (V_assign rfl rfl) ?_
  refine GT_nil ?_
  refine GE_seq ?_
  refine GE_seq ?_
  refine GE_plain (.st 0 (.ld 1 [] (.st 2 .nil))) rfl ?_
  refine GT_st rfl rfl rfl rfl (V_move rfl rfl) ?_
  refine GT_call0 rfl rfl rfl rfl rfl rfl rfl rfl rn_84 (fun w hw => C_CheckTakes (h.sh hw)) (GR_nil) ?_
  refine GT_st rfl rfl rfl rfl (V_assign rfl rfl) ?_
  refine GT_nil ?_
  refine GE_seq ?_
  refine GE_slots (L' := [(0, _), (1, _), (6, _)]) ⟨rfl, rfl, rfl, trivial⟩ ?_
  refine GE_plain (.st 0 (.st 1 .nil)) rfl ?_
  refine GT_st rfl rfl rfl rfl (V_move rfl rfl) ?_
  refine GT_st rfl rfl rfl rfl (V_neq rfl rfl rfl) ?_
  refine GT_nil ?_
  first | refine GE_condNot rfl (fun h1 => ?_) (fun h1 => ?_) | refine GE_cond rfl (fun h1 => ?_) (fun h1 => ?_) | refine GE_condNotB rfl (fun h1 => ?_) (fun h1 => ?_) | refine GE_condB rfl (fun h1 => ?_) (fun h1 => ?_)
  · skip
    refine GE_seq ?_
    refine GE_slots (L' := [(6, _)]) ⟨rfl, trivial⟩ ?_
    refine GE_plain (.st 0 (.st 1 (.st 2 .nil))) rfl ?_
    refine GT_st rfl rfl rfl rfl (V_move rfl rfl) ?_
    refine GT_st rfl rfl rfl rfl (V_assign rfl rfl) ?_
    refine GT_st rfl rfl rfl rfl (V_assign rfl rfl) ?_
    refine GT_nil ?_
    refine GE_ret Tryz.func49 ⟨_, _, rfl, rfl, rfl⟩ (fun w hw => ?_)
    exact .inr ⟨by rw [gErr, if_neg h1]; exact h1, by rw [gErr, if_neg h1], hw.nil⟩
  · have hl := lErr_zero.1 h1
    refine GE_skip ?_
    refine GE_seq ?_
    refine GE_seq ?_
    refine GE_plain (.st 0 (.st 1 (.st 2 .nil))) rfl ?_
    refine GT_st rfl rfl rfl rfl (V_move rfl rfl) ?_
    refine GT_st rfl rfl rfl rfl (V_len rfl Tryz.underlying93 rfl) ?_
    refine GT_st rfl rfl rfl rfl (V_gtr rfl rfl rfl) ?_
    refine GT_nil ?_
    first | refine GE_condNot rfl (fun h2 => ?_) (fun h2 => ?_) | refine GE_cond rfl (fun h2 => ?_) (fun h2 => ?_) | refine GE_condNotB rfl (fun h2 => ?_) (fun h2 => ?_) | refine GE_condB rfl (fun h2 => ?_) (fun h2 => ?_)
    · skip
      refine GE_seq ?_
      refine GE_slots (L' := []) trivial ?_
      refine GE_plain (.st 0 (.st 1 .nil)) rfl ?_
      refine GT_st rfl rfl rfl rfl (V_assign rfl rfl) ?_
      refine GT_st rfl rfl rfl rfl (V_assign rfl rfl) ?_
      refine GT_nil ?_
      refine GE_ret Tryz.func49 ⟨_, _, rfl, rfl, rfl⟩ (fun w hw => ?_)
      have e : gErr l p = 6 := (by rw [gErr, if_pos h1, if_pos (by omega)]); exact .inr ⟨by omega, by rw [e], hw.nil⟩
    · have hp32 : p.length ≤ 32 := (by omega)
      refine GE_skip ?_
      refine GE_seq ?_
      refine GE_slots (L' := [(0, _), (1, _)]) ⟨rfl, rfl, trivial⟩ ?_
      refine GE_plain (.st 0 (.st 1 (.ld 2 [] (.st 3 .nil)))) rfl ?_
      refine GT_st rfl rfl rfl rfl (V_move rfl rfl) ?_
      refine GT_st rfl rfl rfl rfl (V_build (vs := [_, _, _]) rfl rfl zc_131 pl_131 sa_131 rfl) ?_
      refine GT_box (z := [_, _, _]) rfl rfl rfl rfl rfl rfl rfl (fun _ => GR_nil) (fun b24 => ?_)
      refine GT_st rfl rfl rfl rfl (V_assign rfl rfl) ?_
      refine GT_nil ?_
      refine GE_seq ?_
      refine GE_seq ?_
      refine GE_slots (L' := [(1, _), (7, _)]) ⟨rfl, rfl, trivial⟩ ?_
      refine GE_plain (.st 0 (.st 1 (.st 2 .nil))) rfl ?_
      refine GT_st rfl rfl rfl rfl (V_move rfl rfl) ?_
      refine GT_st rfl rfl rfl rfl (V_len rfl Tryz.underlying93 rfl) ?_
      refine GT_st rfl rfl rfl rfl (V_move rfl rfl) ?_
      refine GT_nil ?_
      refine GE_block ?_
      refine GE_to (GE_loop (ι := Nat × Option Addr × Nat × Items) (fun x => p.length - x.1) (fun x => [(7, ptr b24 0), (25, .slice A2 p.length c2), (26, I p.length), (27, I x.1)]) (fun x => (b24, blk [.slice A l.length c, .slice x.2.1 x.1 x.2.2.1, I (fin (p.take x.1))] 131) :: x.2.2.2) (fun x => x.1 ≤ p.length ∧ (∀ i, i < x.1 → goodP l (pt p i) = true) ∧ Own 10 133 ePlc (plcs p x.1) (.slice x.2.1 x.1 x.2.2.1) x.2.2.2) ?_ (0, none, 0, []) ?_) ⟨rfl, rfl, rfl, rfl, trivial⟩ (HS.cons rfl HS.nil)
      · rintro ⟨k, A', c', I'⟩ ⟨hk, hgd, hO⟩ ih; dsimp only at hk hgd hO ih ⊢; have hfb := fin_bd hl k hk hgd
        refine GE_seq ?_
        refine GE_plain (.st 0 .nil) rfl ?_
        refine GT_st rfl rfl rfl rfl (V_lss rfl rfl rfl) ?_
        refine GT_nil ?_
        refine GE_seq ?_
        first | refine GE_condNot rfl (fun h3 => ?_) (fun h3 => ?_) | refine GE_cond rfl (fun h3 => ?_) (fun h3 => ?_) | refine GE_condNotB rfl (fun h3 => ?_) (fun h3 => ?_) | refine GE_condB rfl (fun h3 => ?_) (fun h3 => ?_)
        · have hkl : k < p.length := (by omega)
          refine GE_skip ?_
          refine GE_seq ?_
          refine GE_block ?_
          refine GE_seq ?_
          refine GE_plain (.st 0 (.st 1 (.st 2 (.ld 3 [] (.st 4 (.ld 5 [] .nil)))))) rfl ?_
          refine GT_st rfl rfl rfl rfl (V_move rfl rfl) ?_
          refine GT_st rfl rfl rfl rfl (V_index rfl rfl rfl Tryz.underlying93 sz_92 (k := k) rfl hkl (hp.isSome hkl)) ?_
          refine GT_st rfl rfl rfl rfl (V_loadN (vs := [_, _, _, _, _, _, _]) rfl rfl ag_92 sz_92 rfl (show CellsAt _ _ _ (ePrt (pt p k)) from hp.ats noM hkl)) ?_
          refine GT_alloc rfl rfl rfl rfl rfl zc_92 (fun _ => GR_nil) (fun b9 => ?_)
          refine GT_st rfl rfl rfl rfl (V_assign rfl rfl) ?_
          refine GT_store (vs := [_, _, _, _, _, _, _]) (l' := [_, _, _, _, _, _, _]) rfl rfl rfl rfl rfl rfl rfl sz_92 rfl rfl (Nat.le_of_ble_eq_true rfl) rfl (GR_nil) ?_
          refine GT_nil ?_
          refine GE_seq ?_
          refine GE_seq ?_
          refine GE_slots (L' := [(7, _), (8, _), (9, _), (25, _), (26, _), (27, _)]) ⟨rfl, rfl, rfl, rfl, rfl, rfl, trivial⟩ ?_
          refine GE_plain (.st 0 (.st 1 (.ld 2 [] (.st 3 .nil)))) rfl ?_
          refine GT_st rfl rfl rfl rfl (V_move rfl rfl) ?_
          refine GT_st rfl rfl rfl rfl (V_loadN (vs := [_, _, _, _, _, _, _]) rfl rfl ag_92 sz_92 rfl (CellsAt.item rfl)) ?_
          refine GT_call0 rfl rfl rfl rfl rfl rfl rfl rfl rn_85 (fun w hw => C_good (x := pt p k) (h.sh hw) (BlkAt.of hw)) (GR_nil) ?_
          first | refine GT_st rfl rfl rfl rfl (V_not rfl rfl) ?_ | refine GT_st rfl rfl rfl rfl (V_notB rfl rfl) ?_
          refine GT_nil ?_
          first | refine GE_condNot rfl (fun h4 => ?_) (fun h4 => ?_) | refine GE_cond rfl (fun h4 => ?_) (fun h4 => ?_) | refine GE_condNotB rfl (fun h4 => ?_) (fun h4 => ?_) | refine GE_condB rfl (fun h4 => ?_) (fun h4 => ?_)
          · skip
            refine GE_seq ?_
            refine GE_slots (L' := []) trivial ?_
            refine GE_plain (.st 0 (.st 1 .nil)) rfl ?_
            refine GT_st rfl rfl rfl rfl (V_assign rfl rfl) ?_
            refine GT_st rfl rfl rfl rfl (V_assign rfl rfl) ?_
            refine GT_nil ?_
            refine GE_ret Tryz.func49 ⟨_, _, rfl, rfl, rfl⟩ (fun w hw => ?_)
            have e : gErr l p = 2 := (by rw [gErr, if_pos h1, if_neg (by omega), if_neg (by rw [all_split hkl h4]; decide)]); exact .inr ⟨by omega, by rw [e], hw.nil⟩
          · have hgk := goodP_iff.1 h4; have hfk := fin_bd hl (k + 1) hkl (fun i hi => by rcases Nat.lt_or_ge i k with r | r; exact hgd i r; rw [show i = k by omega]; exact h4); rw [fin_take hkl] at hfk; have hlk : en p k = bgn p k + lng (pt p k) := rfl; have hbk : bgn p k = fin (p.take k) + (pt p k).gap := rfl; have hnk : lng (pt p k) = (pt p k).to - (pt p k).fr := rfl; have hga := hgk.gap; have hfr0 := hgk.fr0; have hfrt := hgk.frto; have hto : (pt p k).to ≤ 4096 := (by have a := hgk.tk0; have b := hgk.tk1; have d := (tErr_zero.1 (hl.each _ (getD_mem (i := (pt p k).tk.toNat) (by omega)))).1; have e := hgk.to1; unfold tkOf at e; omega)
            refine GE_skip ?_
            refine GE_seq ?_
            refine GE_slots (L' := [(7, _), (8, _), (9, _), (25, _), (26, _), (27, _)]) ⟨rfl, rfl, rfl, rfl, rfl, rfl, trivial⟩ ?_
            refine GE_drawn (.st 0 (.st 1 (.st 2 (.st 3 (.st 4 (.st 5 (.st 6 (.st 7 (.st 8 (.st 9 (.ld 10 [0, 1, 2, 3, 4, 5, 6, 7, 8, 9] (.ld 11 [] .nil)))))))))))) [10, 11] (by decide +kernel) ?_
            refine GT_st rfl rfl rfl rfl (V_loadN (vs := [_, _, _, _, _, _, _]) rfl rfl ag_92 sz_92 rfl (CellsAt.item rfl)) ?_
            refine GT_st rfl rfl rfl rfl (V_move rfl rfl) ?_
            refine GT_st rfl rfl rfl rfl (V_move rfl rfl) ?_
            first | refine GT_st rfl rfl rfl rfl (V_nilCheck rfl rfl) ?_ | refine GT_st rfl rfl rfl rfl (V_nilCheck_func rfl rfl) ?_ | refine GT_st rfl rfl rfl rfl (V_nilCheck_yield rfl rfl) ?_
            first | refine GT_st rfl rfl rfl rfl (V_field rfl rfl fo_131_2) ?_ | refine GT_st rfl rfl rfl rfl (V_fieldA rfl rfl fo_131_2) ?_
            refine GT_st rfl rfl rfl rfl (V_load rfl rfl ag_3 (CellAt.item rfl)) ?_
            first | refine GT_st rfl rfl rfl rfl (V_field rfl rfl fo_92_3) ?_ | refine GT_st rfl rfl rfl rfl (V_fieldA rfl rfl fo_92_3) ?_
            refine GT_st rfl rfl rfl rfl (V_load rfl rfl ag_3 (CellAt.item rfl)) ?_
            refine GT_st rfl rfl rfl rfl (V_add rfl rfl rfl ((wrap_i64 (by omega)).trans (show _ = bgn p k from rfl))) ?_
            refine GT_st rfl rfl rfl rfl (V_build (vs := [_, _, _, _, _, _, _, _, _, _]) rfl rfl zc_133 pl_133 sa_133 rfl) ?_
            refine GT_alloc rfl rfl rfl rfl rfl zc_133 (fun _ => GR_cons rfl rfl rfl rfl (V_loadN (vs := [_, _, _, _, _, _, _]) rfl rfl ag_92 sz_92 rfl (CellsAt.item rfl)) (GR_cons rfl rfl rfl rfl (V_move rfl rfl) (GR_cons rfl rfl rfl rfl (V_move rfl rfl) (GR_cons rfl rfl rfl rfl ((by first | exact V_nilCheck rfl rfl | exact V_nilCheck_func rfl rfl | exact V_nilCheck_yield rfl rfl)) (GR_cons rfl rfl rfl rfl ((by first | exact V_field rfl rfl fo_131_2 | exact V_fieldA rfl rfl fo_131_2)) (GR_cons rfl rfl rfl rfl (V_load rfl rfl ag_3 (CellAt.item rfl)) (GR_cons rfl rfl rfl rfl ((by first | exact V_field rfl rfl fo_92_3 | exact V_fieldA rfl rfl fo_92_3)) (GR_cons rfl rfl rfl rfl (V_load rfl rfl ag_3 (CellAt.item rfl)) (GR_cons rfl rfl rfl rfl (V_add rfl rfl rfl ((wrap_i64 (by omega)).trans (show _ = bgn p k from rfl))) (GR_cons rfl rfl rfl rfl (V_build (vs := [_, _, _, _, _, _, _, _, _, _]) rfl rfl zc_133 pl_133 sa_133 rfl) (GR_nil))))))))))) (fun b10 => ?_)
            refine GT_store (vs := [_, _, _, _, _, _, _, _, _, _]) (l' := [_, _, _, _, _, _, _, _, _, _]) rfl rfl rfl rfl rfl rfl rfl sz_133 rfl rfl (Nat.le_of_ble_eq_true rfl) rfl (GR_nil) ?_
            refine GT_nil ?_
            refine GE_seq ?_
            refine GE_slots (L' := [(7, _), (9, _), (10, _), (25, _), (26, _), (27, _)]) ⟨rfl, rfl, rfl, rfl, rfl, rfl, trivial⟩ ?_
            refine GE_plain (.st 0 (.st 1 (.st 2 (.st 3 (.st 4 (.st 5 (.st 6 (.st 7 (.st 8 (.ld 9 [] .nil)))))))))) rfl ?_
            first | refine GT_st rfl rfl rfl rfl (V_field rfl rfl fo_133_2) ?_ | refine GT_st rfl rfl rfl rfl (V_fieldA rfl rfl fo_133_2) ?_
            refine GT_st rfl rfl rfl rfl (V_load rfl rfl ag_3 (CellAt.item rfl)) ?_
            first | refine GT_st rfl rfl rfl rfl (V_field rfl rfl fo_92_2) ?_ | refine GT_st rfl rfl rfl rfl (V_fieldA rfl rfl fo_92_2) ?_
            refine GT_st rfl rfl rfl rfl (V_load rfl rfl ag_3 (CellAt.item rfl)) ?_
            refine GT_st rfl rfl rfl rfl (V_add rfl rfl rfl (wrap_i64 (by omega))) ?_
            first | refine GT_st rfl rfl rfl rfl (V_field rfl rfl fo_92_1) ?_ | refine GT_st rfl rfl rfl rfl (V_fieldA rfl rfl fo_92_1) ?_
            refine GT_st rfl rfl rfl rfl (V_load rfl rfl ag_3 (CellAt.item rfl)) ?_
            refine GT_st rfl rfl rfl rfl (V_sub rfl rfl rfl ((wrap_i64 (by omega)).trans (show bgn p k + (pt p k).to - (pt p k).fr = en p k by omega))) ?_
            first | refine GT_st rfl rfl rfl rfl (V_field rfl rfl fo_133_3) ?_ | refine GT_st rfl rfl rfl rfl (V_fieldA rfl rfl fo_133_3) ?_
            refine GT_store (vs := [_]) (l' := [_, _, _, _, _, _, _, _, _, _]) rfl rfl rfl rfl rfl rfl rfl sz_3 rfl rfl (Nat.le_of_ble_eq_true rfl) rfl (GR_nil) ?_
            refine GT_nil ?_
            refine GE_seq ?_
            refine GE_slots (L' := [(7, _), (10, _), (25, _), (26, _), (27, _)]) ⟨rfl, rfl, rfl, rfl, rfl, trivial⟩ ?_
            refine GE_drawn (.st 0 (.st 1 (.st 2 (.st 3 (.st 4 (.st 5 (.ld 6 [0, 1, 2, 3, 4] (.ld 7 [0] (.st 8 (.st 9 (.ld 10 [] .nil))))))))))) [6, 7, 10] (by decide +kernel) ?_
            refine GT_st rfl rfl rfl rfl (V_move rfl rfl) ?_
            refine GT_st rfl rfl rfl rfl (V_move rfl rfl) ?_
            first | refine GT_st rfl rfl rfl rfl (V_nilCheck rfl rfl) ?_ | refine GT_st rfl rfl rfl rfl (V_nilCheck_func rfl rfl) ?_ | refine GT_st rfl rfl rfl rfl (V_nilCheck_yield rfl rfl) ?_
            first | refine GT_st rfl rfl rfl rfl (V_field rfl rfl fo_131_1) ?_ | refine GT_st rfl rfl rfl rfl (V_fieldA rfl rfl fo_131_1) ?_
            refine GT_st rfl rfl rfl rfl (V_load rfl rfl ag_129 (CellAt.item rfl)) ?_
            refine GT_st rfl rfl rfl rfl (V_loadN (vs := [_, _, _, _, _, _, _, _, _, _]) rfl rfl ag_133 sz_133 rfl (CellsAt.item rfl)) ?_
            refine GT_buildSlice (z := [_, _, _, _, _, _, _, _, _, _]) rfl rfl rfl rfl rfl Tryz.underlying129 zc_133 sz_133 (by decide) rfl rfl (fun _ => GR_cons rfl rfl rfl rfl (V_move rfl rfl) (GR_cons rfl rfl rfl rfl (V_move rfl rfl) (GR_cons rfl rfl rfl rfl ((by first | exact V_nilCheck rfl rfl | exact V_nilCheck_func rfl rfl | exact V_nilCheck_yield rfl rfl)) (GR_cons rfl rfl rfl rfl ((by first | exact V_field rfl rfl fo_131_1 | exact V_fieldA rfl rfl fo_131_1)) (GR_cons rfl rfl rfl rfl (V_load rfl rfl ag_129 (CellAt.item rfl)) (GR_nil)))))) (fun b61 => ?_)
            refine GT_append (enc := ePlc) (m := [plc p k]) rfl rfl rfl rfl rfl rfl rfl hO (fun w m => RdL.own' m ePlc_len) Tryz.underlying129 zc_133 sz_133 ⟨rfl, by decide⟩ by_133 ⟨by rw [plcs_len]; simp only [List.length_singleton]; omega, by rw [plcs_len]; simp only [List.length_singleton]; omega⟩ ePlc_len ePlc_one (fun _ _ _ _ => GR_cons rfl rfl rfl rfl (V_move rfl rfl) (GR_nil)) (fun A2' c2' I2' hO2 => ?_)
            rw [← plcs_succ, plcs_len] at hO2 ⊢
            first | refine GT_st rfl rfl rfl rfl (V_nilCheck rfl rfl) ?_ | refine GT_st rfl rfl rfl rfl (V_nilCheck_func rfl rfl) ?_ | refine GT_st rfl rfl rfl rfl (V_nilCheck_yield rfl rfl) ?_
            first | refine GT_st rfl rfl rfl rfl (V_field rfl rfl fo_131_1) ?_ | refine GT_st rfl rfl rfl rfl (V_fieldA rfl rfl fo_131_1) ?_
            refine GT_store (vs := [_]) (l' := [_, _, _]) rfl rfl rfl rfl rfl rfl rfl sz_129 rfl rfl (Nat.le_of_ble_eq_true rfl) rfl (GR_nil) ?_
            refine GT_nil ?_
            refine GE_slots (L' := [(7, _), (10, _), (25, _), (26, _), (27, _)]) ⟨rfl, rfl, rfl, rfl, rfl, trivial⟩ ?_
            refine GE_plain (.st 0 (.st 1 (.st 2 (.st 3 (.st 4 (.ld 5 [] .nil)))))) rfl ?_
            refine GT_st rfl rfl rfl rfl (V_move rfl rfl) ?_
            first | refine GT_st rfl rfl rfl rfl (V_field rfl rfl fo_133_3) ?_ | refine GT_st rfl rfl rfl rfl (V_fieldA rfl rfl fo_133_3) ?_
            refine GT_st rfl rfl rfl rfl (V_load rfl rfl ag_3 (CellAt.item rfl)) ?_
            first | refine GT_st rfl rfl rfl rfl (V_nilCheck rfl rfl) ?_ | refine GT_st rfl rfl rfl rfl (V_nilCheck_func rfl rfl) ?_ | refine GT_st rfl rfl rfl rfl (V_nilCheck_yield rfl rfl) ?_
            first | refine GT_st rfl rfl rfl rfl (V_field rfl rfl fo_131_2) ?_ | refine GT_st rfl rfl rfl rfl (V_fieldA rfl rfl fo_131_2) ?_
            refine GT_store (vs := [_]) (l' := [_, _, _]) rfl rfl rfl rfl rfl rfl rfl sz_3 rfl rfl (Nat.le_of_ble_eq_true rfl) rfl (GR_nil) ?_
            refine GT_nil ?_
            refine GE_inBlock ?_
            refine GE_slots (L' := [(7, _), (25, _), (26, _), (27, _)]) ⟨rfl, rfl, rfl, rfl, trivial⟩ ?_
            refine GE_plain (.st 0 (.ld 1 [] .nil)) rfl ?_
            refine GT_st rfl rfl rfl rfl (V_add rfl rfl rfl (wrap_i64 (by omega))) ?_
            refine GT_ldv rfl rfl rfl rfl rfl (V_move rfl rfl) (GR_nil) ?_
            refine GT_nil ?_
            exact GE_to (ih (k + 1, A2', c2', I2') ⟨by dsimp only; omega, fun i hi => by rcases Nat.lt_or_ge i k with r | r; exact hgd i r; rw [show i = k by dsimp only at hi; omega]; exact h4, hO2⟩ (by dsimp only; omega)) ⟨rfl, rfl, rfl, rfl, trivial⟩ (HS.cons (by rw [fin_take hkl]) HS.last)
        · obtain rfl : k = p.length := (by omega); rw [fin_all]; have hall := all_getD.2 hgd
          refine GE_exit rfl ?_
          refine GE_seq ?_
          refine GE_slots (L' := [(7, _)]) ⟨rfl, trivial⟩ ?_
          refine GE_plain (.st 0 .nil) rfl ?_
          refine GT_st rfl rfl rfl rfl (V_assign rfl rfl) ?_
          refine GT_nil ?_
          refine GE_seq ?_
          refine GE_seq ?_
          refine GE_plain (.st 0 (.st 1 (.st 2 (.st 3 (.st 4 (.st 5 .nil)))))) rfl ?_
          refine GT_st rfl rfl rfl rfl (V_move rfl rfl) ?_
          first | refine GT_st rfl rfl rfl rfl (V_nilCheck rfl rfl) ?_ | refine GT_st rfl rfl rfl rfl (V_nilCheck_func rfl rfl) ?_ | refine GT_st rfl rfl rfl rfl (V_nilCheck_yield rfl rfl) ?_
          first | refine GT_st rfl rfl rfl rfl (V_field rfl rfl fo_131_1) ?_ | refine GT_st rfl rfl rfl rfl (V_fieldA rfl rfl fo_131_1) ?_
          refine GT_st rfl rfl rfl rfl (V_load rfl rfl ag_129 (CellAt.item rfl)) ?_
          refine GT_st rfl rfl rfl rfl (V_len rfl Tryz.underlying129 rfl) ?_
          refine GT_st rfl rfl rfl rfl (V_move rfl rfl) ?_
          refine GT_nil ?_
          refine GE_block ?_
          refine GE_to (GE_loop (ι := Nat × Int) (fun x => p.length - x.1) (fun x => [(7, ptr b24 0), (11, I x.2), (74, .slice A' p.length c'), (75, I p.length), (76, I x.1)]) (fun x => (b24, blk [.slice A l.length c, .slice A' p.length c', I (fin p)] 131) :: I') (fun x => x.1 ≤ p.length ∧ (∀ i, i < x.1 → posOk p i) ∧ (x.1 ≤ 1 → x.2 = 0) ∧ (1 < x.1 → x.2 = en p (x.1 - 2))) ?_ (0, 0) ?_) ⟨rfl, rfl, rfl, rfl, rfl, trivial⟩ HS.all
          · rintro ⟨j, fr⟩ ⟨hj, hps, hf1, hf2⟩ ih2; dsimp only at hj hps hf1 hf2 ih2 ⊢; have hnn := bgn_nn hps
            refine GE_seq ?_
            refine GE_plain (.st 0 .nil) rfl ?_
            refine GT_st rfl rfl rfl rfl (V_lss rfl rfl rfl) ?_
            refine GT_nil ?_
            refine GE_seq ?_
            first | refine GE_condNot rfl (fun h5 => ?_) (fun h5 => ?_) | refine GE_cond rfl (fun h5 => ?_) (fun h5 => ?_) | refine GE_condNotB rfl (fun h5 => ?_) (fun h5 => ?_) | refine GE_condB rfl (fun h5 => ?_) (fun h5 => ?_)
            · have hjl : j < p.length := (by omega)
              refine GE_skip ?_
              refine GE_seq ?_
              refine GE_block ?_
              refine GE_seq ?_
              refine GE_plain (.st 0 (.st 1 (.st 2 (.ld 3 [] (.st 4 (.ld 5 [] .nil)))))) rfl ?_
              refine GT_st rfl rfl rfl rfl (V_move rfl rfl) ?_
              refine GT_st rfl rfl rfl rfl (V_index rfl rfl rfl Tryz.underlying129 sz_133 (k := j) rfl hjl (hO.isSome (k := j) (by rw [plcs_len]; exact hjl))) ?_
              refine GT_st rfl rfl rfl rfl (V_loadN (vs := [_, _, _, _, _, _, _, _, _, _]) rfl rfl ag_133 sz_133 rfl (CellsAt.ownE hO ePlc_len (by rw [plcs_len]; exact hjl) (by rw [plcs_get hjl, ePlc_plc]))) ?_
              refine GT_alloc rfl rfl rfl rfl rfl zc_133 (fun _ => GR_nil) (fun b13 => ?_)
              refine GT_st rfl rfl rfl rfl (V_assign rfl rfl) ?_
              refine GT_store (vs := [_, _, _, _, _, _, _, _, _, _]) (l' := [_, _, _, _, _, _, _, _, _, _]) rfl rfl rfl rfl rfl rfl rfl sz_133 rfl rfl (Nat.le_of_ble_eq_true rfl) rfl (GR_nil) ?_
              refine GT_nil ?_
              refine GE_seq ?_
              refine GE_seq ?_
              refine GE_slots (L' := [(7, _), (11, _), (12, _), (13, _), (74, _), (75, _), (76, _)]) ⟨rfl, rfl, rfl, rfl, rfl, rfl, rfl, trivial⟩ ?_
              refine GE_drawn (.st 0 (.st 1 (.st 2 (.st 3 (.st 4 (.st 5 (.st 6 (.st 7 (.st 8 (.st 9 (.st 10 (.st 11 (.st 12 (.st 13 (.st 14 (.st 15 (.st 16 (.st 17 (.st 18 (.st 19 (.st 20 (.st 21 (.st 22 (.st 23 (.st 24 (.st 25 (.st 26 (.st 27 (.st 28 (.st 29 (.st 30 (.st 31 (.st 32 (.st 33 (.st 34 (.st 35 .nil)))))))))))))))))))))))))))))))))))) [] (by decide +kernel) ?_
              refine GT_st rfl rfl rfl rfl (V_move rfl rfl) ?_
              refine GT_st rfl rfl rfl rfl (V_gtr rfl rfl rfl) ?_
              refine GT_st rfl rfl rfl rfl (V_move rfl rfl) ?_
              first | refine GT_splitNot (d := 83) rfl (fun h6 => ?_) (fun h6 => ?_) | refine GT_split (d := 83) rfl (fun h6 => ?_) (fun h6 => ?_) | refine GT_splitNotB (d := 83) rfl (fun h6 => ?_) (fun h6 => ?_) | refine GT_splitB (d := 83) rfl (fun h6 => ?_) (fun h6 => ?_)
              · have hn1 := hnn (j - 1) (by omega)
                first | refine GT_st_g rfl rfl rfl rfl rfl rfl rfl (V_field rfl rfl fo_133_3) ?_ | refine GT_st_g rfl rfl rfl rfl rfl rfl rfl (V_fieldA rfl rfl fo_133_3) ?_
                refine GT_st_g rfl rfl rfl rfl rfl rfl rfl (V_load rfl rfl ag_3 (CellAt.item rfl)) ?_
                refine GT_st_g rfl rfl rfl rfl rfl rfl rfl (V_move rfl rfl) ?_
                first | refine GT_st_g rfl rfl rfl rfl rfl rfl rfl (V_nilCheck rfl rfl) ?_ | refine GT_st_g rfl rfl rfl rfl rfl rfl rfl (V_nilCheck_func rfl rfl) ?_ | refine GT_st_g rfl rfl rfl rfl rfl rfl rfl (V_nilCheck_yield rfl rfl) ?_
                first | refine GT_st_g rfl rfl rfl rfl rfl rfl rfl (V_field rfl rfl fo_131_1) ?_ | refine GT_st_g rfl rfl rfl rfl rfl rfl rfl (V_fieldA rfl rfl fo_131_1) ?_
                refine GT_st_g rfl rfl rfl rfl rfl rfl rfl (V_load rfl rfl ag_129 (CellAt.item rfl)) ?_
                refine GT_st_g rfl rfl rfl rfl rfl rfl rfl (V_move rfl rfl) ?_
                refine GT_st_g rfl rfl rfl rfl rfl rfl rfl (V_sub rfl rfl rfl (wrap_i64 (by omega))) ?_
                refine GT_st_g rfl rfl rfl rfl rfl rfl rfl (V_index rfl rfl rfl Tryz.underlying129 sz_133 (k := j - 1) (by omega) (by omega) (hO.isSome (k := j) (by rw [plcs_len]; exact hjl))) ?_
                first | refine GT_st_g rfl rfl rfl rfl rfl rfl rfl (V_field rfl rfl fo_133_3) ?_ | refine GT_st_g rfl rfl rfl rfl rfl rfl rfl (V_fieldA rfl rfl fo_133_3) ?_
                refine GT_st_g rfl rfl rfl rfl rfl rfl rfl (V_load rfl rfl ag_3 (CellAt.own (k := j - 1) hO ePlc_len (by rw [plcs_len]; omega) (by rw [plcs_get (by omega)]; exact (show (ePlc (plc p (j - 1)))[9]? = some (I (en p (j - 1))) from rfl)))) ?_
                refine GT_st_g rfl rfl rfl rfl rfl rfl rfl (V_lss rfl rfl rfl) ?_
                refine GT_st_g rfl rfl rfl rfl rfl rfl rfl (V_move rfl rfl) ?_
                first | refine GT_splitNot (d := 96) rfl (fun h7 => ?_) (fun h7 => ?_) | refine GT_split (d := 96) rfl (fun h7 => ?_) (fun h7 => ?_) | refine GT_splitNotB (d := 96) rfl (fun h7 => ?_) (fun h7 => ?_) | refine GT_splitB (d := 96) rfl (fun h7 => ?_) (fun h7 => ?_)
                · skip
                  refine GT_skip rfl rfl rfl rfl rfl (by decide) rfl rfl ?_
                  refine GT_skip rfl rfl rfl rfl rfl (by decide) rfl rfl ?_
                  refine GT_skip rfl rfl rfl rfl rfl (by decide) rfl rfl ?_
                  refine GT_skip rfl rfl rfl rfl rfl (by decide) rfl rfl ?_
                  refine GT_skip rfl rfl rfl rfl rfl (by decide) rfl rfl ?_
                  refine GT_skip rfl rfl rfl rfl rfl (by decide) rfl rfl ?_
                  refine GT_skip rfl rfl rfl rfl rfl (by decide) rfl rfl ?_
                  refine GT_skip rfl rfl rfl rfl rfl (by decide) rfl rfl ?_
                  refine GT_skip rfl rfl rfl rfl rfl (by decide) rfl rfl ?_
                  refine GT_skip rfl rfl rfl rfl rfl (by decide) rfl rfl ?_
                  refine GT_skip rfl rfl rfl rfl rfl (by decide) rfl rfl ?_
                  refine GT_skip rfl rfl rfl rfl rfl (by decide) rfl rfl ?_
                  refine GT_st_g rfl rfl rfl rfl rfl rfl rfl (V_pick_t rfl rfl rfl) ?_
                  refine GT_st rfl rfl rfl rfl (V_pick_t rfl rfl rfl) ?_
                  refine GT_st rfl rfl rfl rfl (V_move rfl rfl) ?_
                  refine GT_skip rfl rfl rfl rfl rfl (by decide) rfl rfl ?_
                  refine GT_skip rfl rfl rfl rfl rfl (by decide) rfl rfl ?_
                  refine GT_skip rfl rfl rfl rfl rfl (by decide) rfl rfl ?_
                  refine GT_skip rfl rfl rfl rfl rfl (by decide) rfl rfl ?_
                  refine GT_st rfl rfl rfl rfl (V_pick_t rfl rfl rfl) ?_
                  refine GT_nil ?_
                  refine GE_cond_t rfl ?_
                  refine GE_seq ?_
                  refine GE_slots (L' := []) trivial ?_
                  refine GE_plain (.st 0 (.st 1 .nil)) rfl ?_
                  refine GT_st rfl rfl rfl rfl (V_assign rfl rfl) ?_
                  refine GT_st rfl rfl rfl rfl (V_assign rfl rfl) ?_
                  refine GT_nil ?_
                  refine GE_ret Tryz.func49 ⟨_, _, rfl, rfl, rfl⟩ (fun w hw => ?_)
                  first | exact .inl ⟨gErr_zero.2 ⟨hl, by omega, fun i hi => goodP_iff.1 (hgd i hi), hps, by omega⟩, b24, A', c', I', hO, rfl, hw⟩ | (have e : gErr l p = 15 := (by rw [gErr, if_pos h1, if_neg (by omega), if_pos hall, if_neg (fun hP => by have := hP.1 j hjl; unfold posOk at this; omega)]); exact .inr ⟨by omega, by rw [e], hw.nil⟩)
                · skip
                  first | refine GT_st_g rfl rfl rfl rfl rfl rfl rfl (V_field rfl rfl fo_133_2) ?_ | refine GT_st_g rfl rfl rfl rfl rfl rfl rfl (V_fieldA rfl rfl fo_133_2) ?_
                  refine GT_st_g rfl rfl rfl rfl rfl rfl rfl (V_load rfl rfl ag_3 (CellAt.item rfl)) ?_
                  refine GT_st_g rfl rfl rfl rfl rfl rfl rfl (V_move rfl rfl) ?_
                  first | refine GT_st_g rfl rfl rfl rfl rfl rfl rfl (V_nilCheck rfl rfl) ?_ | refine GT_st_g rfl rfl rfl rfl rfl rfl rfl (V_nilCheck_func rfl rfl) ?_ | refine GT_st_g rfl rfl rfl rfl rfl rfl rfl (V_nilCheck_yield rfl rfl) ?_
                  first | refine GT_st_g rfl rfl rfl rfl rfl rfl rfl (V_field rfl rfl fo_131_1) ?_ | refine GT_st_g rfl rfl rfl rfl rfl rfl rfl (V_fieldA rfl rfl fo_131_1) ?_
                  refine GT_st_g rfl rfl rfl rfl rfl rfl rfl (V_load rfl rfl ag_129 (CellAt.item rfl)) ?_
                  refine GT_st_g rfl rfl rfl rfl rfl rfl rfl (V_move rfl rfl) ?_
                  refine GT_st_g rfl rfl rfl rfl rfl rfl rfl (V_sub rfl rfl rfl (wrap_i64 (by omega))) ?_
                  refine GT_st_g rfl rfl rfl rfl rfl rfl rfl (V_index rfl rfl rfl Tryz.underlying129 sz_133 (k := j - 1) (by omega) (by omega) (hO.isSome (k := j) (by rw [plcs_len]; exact hjl))) ?_
                  first | refine GT_st_g rfl rfl rfl rfl rfl rfl rfl (V_field rfl rfl fo_133_2) ?_ | refine GT_st_g rfl rfl rfl rfl rfl rfl rfl (V_fieldA rfl rfl fo_133_2) ?_
                  refine GT_st_g rfl rfl rfl rfl rfl rfl rfl (V_load rfl rfl ag_3 (CellAt.own (k := j - 1) hO ePlc_len (by rw [plcs_len]; omega) (by rw [plcs_get (by omega)]; exact (show (ePlc (plc p (j - 1)))[8]? = some (I (bgn p (j - 1))) from rfl)))) ?_
                  refine GT_st_g rfl rfl rfl rfl rfl rfl rfl (V_lss rfl rfl rfl) ?_
                  refine GT_st_g rfl rfl rfl rfl rfl rfl rfl (V_pick_f rfl rfl rfl) ?_
                  refine GT_st rfl rfl rfl rfl (V_pick_t rfl rfl rfl) ?_
                  refine GT_st rfl rfl rfl rfl (V_move rfl rfl) ?_
                  first | refine GT_splitNot (d := 111) rfl (fun h8 => ?_) (fun h8 => ?_) | refine GT_split (d := 111) rfl (fun h8 => ?_) (fun h8 => ?_) | refine GT_splitNotB (d := 111) rfl (fun h8 => ?_) (fun h8 => ?_) | refine GT_splitB (d := 111) rfl (fun h8 => ?_) (fun h8 => ?_)
                  · skip
                    refine GT_skip rfl rfl rfl rfl rfl (by decide) rfl rfl ?_
                    refine GT_skip rfl rfl rfl rfl rfl (by decide) rfl rfl ?_
                    refine GT_skip rfl rfl rfl rfl rfl (by decide) rfl rfl ?_
                    refine GT_skip rfl rfl rfl rfl rfl (by decide) rfl rfl ?_
                    refine GT_st rfl rfl rfl rfl (V_pick_t rfl rfl rfl) ?_
                    refine GT_nil ?_
                    refine GE_cond_t rfl ?_
                    refine GE_seq ?_
                    refine GE_slots (L' := []) trivial ?_
                    refine GE_plain (.st 0 (.st 1 .nil)) rfl ?_
                    refine GT_st rfl rfl rfl rfl (V_assign rfl rfl) ?_
                    refine GT_st rfl rfl rfl rfl (V_assign rfl rfl) ?_
                    refine GT_nil ?_
                    refine GE_ret Tryz.func49 ⟨_, _, rfl, rfl, rfl⟩ (fun w hw => ?_)
                    first | exact .inl ⟨gErr_zero.2 ⟨hl, by omega, fun i hi => goodP_iff.1 (hgd i hi), hps, by omega⟩, b24, A', c', I', hO, rfl, hw⟩ | (have e : gErr l p = 15 := (by rw [gErr, if_pos h1, if_neg (by omega), if_pos hall, if_neg (fun hP => by have := hP.1 j hjl; unfold posOk at this; omega)]); exact .inr ⟨by omega, by rw [e], hw.nil⟩)
                  · skip
                    first | refine GT_st_g rfl rfl rfl rfl rfl rfl rfl (V_field rfl rfl fo_133_2) ?_ | refine GT_st_g rfl rfl rfl rfl rfl rfl rfl (V_fieldA rfl rfl fo_133_2) ?_
                    refine GT_st_g rfl rfl rfl rfl rfl rfl rfl (V_load rfl rfl ag_3 (CellAt.item rfl)) ?_
                    refine GT_st_g rfl rfl rfl rfl rfl rfl rfl (V_move rfl rfl) ?_
                    refine GT_st_g rfl rfl rfl rfl rfl rfl rfl (V_lss rfl rfl rfl) ?_
                    refine GT_st rfl rfl rfl rfl (V_pick_f rfl rfl rfl) ?_
                    refine GT_nil ?_
                    first | refine GE_condNot rfl (fun h9 => ?_) (fun h9 => ?_) | refine GE_cond rfl (fun h9 => ?_) (fun h9 => ?_) | refine GE_condNotB rfl (fun h9 => ?_) (fun h9 => ?_) | refine GE_condB rfl (fun h9 => ?_) (fun h9 => ?_)
                    · skip
                      refine GE_seq ?_
                      refine GE_slots (L' := []) trivial ?_
                      refine GE_plain (.st 0 (.st 1 .nil)) rfl ?_
                      refine GT_st rfl rfl rfl rfl (V_assign rfl rfl) ?_
                      refine GT_st rfl rfl rfl rfl (V_assign rfl rfl) ?_
                      refine GT_nil ?_
                      refine GE_ret Tryz.func49 ⟨_, _, rfl, rfl, rfl⟩ (fun w hw => ?_)
                      have e : gErr l p = 15 := (by rw [gErr, if_pos h1, if_neg (by omega), if_pos hall, if_neg (fun hP => by have := hP.1 j hjl; unfold posOk at this; omega)]); exact .inr ⟨by omega, by rw [e], hw.nil⟩
                    · have hok : posOk p j := (by unfold posOk; omega)
                      refine GE_skip ?_
                      refine GE_seq ?_
                      refine GE_slots (L' := [(7, _), (11, _), (12, _), (74, _), (75, _), (76, _), (84, _), (85, _), (86, _), (87, _), (88, _), (89, _), (90, _), (91, _), (92, _), (93, _), (94, _), (95, _), (96, _), (97, _), (98, _), (99, _), (100, _), (101, _), (102, _), (103, _), (104, _), (105, _), (106, _), (107, _), (108, _), (109, _), (112, _), (113, _), (114, _), (115, _)]) ⟨rfl, rfl, rfl, rfl, rfl, rfl, rfl, rfl, rfl, rfl, rfl, rfl, rfl, rfl, rfl, rfl, rfl, rfl, rfl, rfl, rfl, rfl, rfl, rfl, rfl, rfl, rfl, rfl, rfl, rfl, rfl, rfl, rfl, rfl, rfl, rfl, trivial⟩ ?_
                      refine GE_plain (.st 0 (.st 1 .nil)) rfl ?_
                      refine GT_st rfl rfl rfl rfl (V_move rfl rfl) ?_
                      refine GT_st rfl rfl rfl rfl (V_gtr rfl rfl rfl) ?_
                      refine GT_nil ?_
                      first | refine GE_condNot rfl (fun h10 => ?_) (fun h10 => ?_) | refine GE_cond rfl (fun h10 => ?_) (fun h10 => ?_) | refine GE_condNotB rfl (fun h10 => ?_) (fun h10 => ?_) | refine GE_condB rfl (fun h10 => ?_) (fun h10 => ?_)
                      · skip
                        refine GE_plain (.st 0 (.st 1 (.st 2 (.st 3 (.st 4 (.st 5 (.st 6 (.st 7 (.st 8 (.st 9 .nil)))))))))) rfl ?_
                        refine GT_st rfl rfl rfl rfl (V_move rfl rfl) ?_
                        first | refine GT_st rfl rfl rfl rfl (V_nilCheck rfl rfl) ?_ | refine GT_st rfl rfl rfl rfl (V_nilCheck_func rfl rfl) ?_ | refine GT_st rfl rfl rfl rfl (V_nilCheck_yield rfl rfl) ?_
                        first | refine GT_st rfl rfl rfl rfl (V_field rfl rfl fo_131_1) ?_ | refine GT_st rfl rfl rfl rfl (V_fieldA rfl rfl fo_131_1) ?_
                        refine GT_st rfl rfl rfl rfl (V_load rfl rfl ag_129 (CellAt.item rfl)) ?_
                        refine GT_st rfl rfl rfl rfl (V_move rfl rfl) ?_
                        refine GT_st rfl rfl rfl rfl (V_sub rfl rfl rfl (wrap_i64 (by omega))) ?_
                        refine GT_st rfl rfl rfl rfl (V_index rfl rfl rfl Tryz.underlying129 sz_133 (k := j - 1) (by omega) (by omega) (hO.isSome (k := j) (by rw [plcs_len]; exact hjl))) ?_
                        first | refine GT_st rfl rfl rfl rfl (V_field rfl rfl fo_133_3) ?_ | refine GT_st rfl rfl rfl rfl (V_fieldA rfl rfl fo_133_3) ?_
                        refine GT_st rfl rfl rfl rfl (V_load rfl rfl ag_3 (CellAt.own (k := j - 1) hO ePlc_len (by rw [plcs_len]; omega) (by rw [plcs_get (by omega)]; exact (show (ePlc (plc p (j - 1)))[9]? = some (I (en p (j - 1))) from rfl)))) ?_
                        refine GT_st rfl rfl rfl rfl (V_assign rfl rfl) ?_
                        refine GT_nil ?_
                        refine GE_inBlock ?_
                        refine GE_slots (L' := [(7, _), (11, _), (74, _), (75, _), (76, _), (84, _), (85, _), (86, _), (87, _), (88, _), (89, _), (90, _), (91, _), (92, _), (93, _), (94, _), (95, _), (96, _), (97, _), (98, _), (99, _), (100, _), (101, _), (102, _), (103, _), (104, _), (105, _), (106, _), (107, _), (108, _), (109, _), (112, _), (113, _), (114, _), (115, _)]) ⟨rfl, rfl, rfl, rfl, rfl, rfl, rfl, rfl, rfl, rfl, rfl, rfl, rfl, rfl, rfl, rfl, rfl, rfl, rfl, rfl, rfl, rfl, rfl, rfl, rfl, rfl, rfl, rfl, rfl, rfl, rfl, rfl, rfl, rfl, rfl, trivial⟩ ?_
                        refine GE_plain (.st 0 (.ld 1 [] .nil)) rfl ?_
                        refine GT_st rfl rfl rfl rfl (V_add rfl rfl rfl (wrap_i64 (by omega))) ?_
                        refine GT_ldv rfl rfl rfl rfl rfl (V_move rfl rfl) (GR_nil) ?_
                        refine GT_nil ?_
                        first
                          | exact GE_to (ih2 (j + 1, en p (j - 1)) ⟨by dsimp only; omega, fun i hi => by rcases Nat.lt_or_ge i j with r | r; exact hps i r; rw [show i = j by dsimp only at hi; omega]; exact hok, fun q => by dsimp only at q; omega, fun _ => by dsimp only; rw [show j + 1 - 2 = j - 1 by omega]⟩ (by dsimp only; omega)) ⟨rfl, rfl, rfl, rfl, rfl, trivial⟩ (HS.cons rfl HS.last)
                          | exact GE_to (ih2 (j + 1, fr) ⟨by dsimp only; omega, fun i hi => by rcases Nat.lt_or_ge i j with r | r; exact hps i r; rw [show i = j by dsimp only at hi; omega]; exact hok, fun q => hf1 (by omega), fun q => by dsimp only at q; omega⟩ (by dsimp only; omega)) ⟨rfl, rfl, rfl, rfl, rfl, trivial⟩ (HS.cons rfl HS.last)
                      · skip
                        refine GE_skip ?_
                        refine GE_inBlock ?_
                        refine GE_plain (.st 0 (.ld 1 [] .nil)) rfl ?_
                        refine GT_st rfl rfl rfl rfl (V_add rfl rfl rfl (wrap_i64 (by omega))) ?_
                        refine GT_ldv rfl rfl rfl rfl rfl (V_move rfl rfl) (GR_nil) ?_
                        refine GT_nil ?_
                        first
                          | exact GE_to (ih2 (j + 1, en p (j - 1)) ⟨by dsimp only; omega, fun i hi => by rcases Nat.lt_or_ge i j with r | r; exact hps i r; rw [show i = j by dsimp only at hi; omega]; exact hok, fun q => by dsimp only at q; omega, fun _ => by dsimp only; rw [show j + 1 - 2 = j - 1 by omega]⟩ (by dsimp only; omega)) ⟨rfl, rfl, rfl, rfl, rfl, trivial⟩ (HS.cons rfl HS.last)
                          | exact GE_to (ih2 (j + 1, fr) ⟨by dsimp only; omega, fun i hi => by rcases Nat.lt_or_ge i j with r | r; exact hps i r; rw [show i = j by dsimp only at hi; omega]; exact hok, fun q => hf1 (by omega), fun q => by dsimp only at q; omega⟩ (by dsimp only; omega)) ⟨rfl, rfl, rfl, rfl, rfl, trivial⟩ (HS.cons rfl HS.last)
              · skip
                refine GT_skip rfl rfl rfl rfl rfl (by decide) rfl rfl ?_
                refine GT_skip rfl rfl rfl rfl rfl (by decide) rfl rfl ?_
                refine GT_skip rfl rfl rfl rfl rfl (by decide) rfl rfl ?_
                refine GT_skip rfl rfl rfl rfl rfl (by decide) rfl rfl ?_
                refine GT_skip rfl rfl rfl rfl rfl (by decide) rfl rfl ?_
                refine GT_skip rfl rfl rfl rfl rfl (by decide) rfl rfl ?_
                refine GT_skip rfl rfl rfl rfl rfl (by decide) rfl rfl ?_
                refine GT_skip rfl rfl rfl rfl rfl (by decide) rfl rfl ?_
                refine GT_skip rfl rfl rfl rfl rfl (by decide) rfl rfl ?_
                refine GT_skip rfl rfl rfl rfl rfl (by decide) rfl rfl ?_
                refine GT_skip rfl rfl rfl rfl rfl (by decide) rfl rfl ?_
                refine GT_skip rfl rfl rfl rfl rfl (by decide) rfl rfl ?_
                refine GT_skip rfl rfl rfl rfl rfl (by decide) rfl rfl ?_
                refine GT_skip rfl rfl rfl rfl rfl (by decide) rfl rfl ?_
                refine GT_skip rfl rfl rfl rfl rfl (by decide) rfl rfl ?_
                refine GT_skip rfl rfl rfl rfl rfl (by decide) rfl rfl ?_
                refine GT_skip rfl rfl rfl rfl rfl (by decide) rfl rfl ?_
                refine GT_skip rfl rfl rfl rfl rfl (by decide) rfl rfl ?_
                refine GT_skip rfl rfl rfl rfl rfl (by decide) rfl rfl ?_
                refine GT_skip rfl rfl rfl rfl rfl (by decide) rfl rfl ?_
                refine GT_skip rfl rfl rfl rfl rfl (by decide) rfl rfl ?_
                refine GT_skip rfl rfl rfl rfl rfl (by decide) rfl rfl ?_
                refine GT_skip rfl rfl rfl rfl rfl (by decide) rfl rfl ?_
                refine GT_skip rfl rfl rfl rfl rfl (by decide) rfl rfl ?_
                refine GT_skip rfl rfl rfl rfl rfl (by decide) rfl rfl ?_
                refine GT_skip rfl rfl rfl rfl rfl (by decide) rfl rfl ?_
                refine GT_st rfl rfl rfl rfl (V_pick_f rfl rfl rfl) ?_
                refine GT_st rfl rfl rfl rfl (V_move rfl rfl) ?_
                first | refine GT_st_g rfl rfl rfl rfl rfl rfl rfl (V_field rfl rfl fo_133_2) ?_ | refine GT_st_g rfl rfl rfl rfl rfl rfl rfl (V_fieldA rfl rfl fo_133_2) ?_
                refine GT_st_g rfl rfl rfl rfl rfl rfl rfl (V_load rfl rfl ag_3 (CellAt.item rfl)) ?_
                refine GT_st_g rfl rfl rfl rfl rfl rfl rfl (V_move rfl rfl) ?_
                refine GT_st_g rfl rfl rfl rfl rfl rfl rfl (V_lss rfl rfl rfl) ?_
                refine GT_st rfl rfl rfl rfl (V_pick_f rfl rfl rfl) ?_
                refine GT_nil ?_
                first | refine GE_condNot rfl (fun h9 => ?_) (fun h9 => ?_) | refine GE_cond rfl (fun h9 => ?_) (fun h9 => ?_) | refine GE_condNotB rfl (fun h9 => ?_) (fun h9 => ?_) | refine GE_condB rfl (fun h9 => ?_) (fun h9 => ?_)
                · skip
                  refine GE_seq ?_
                  refine GE_slots (L' := []) trivial ?_
                  refine GE_plain (.st 0 (.st 1 .nil)) rfl ?_
                  refine GT_st rfl rfl rfl rfl (V_assign rfl rfl) ?_
                  refine GT_st rfl rfl rfl rfl (V_assign rfl rfl) ?_
                  refine GT_nil ?_
                  refine GE_ret Tryz.func49 ⟨_, _, rfl, rfl, rfl⟩ (fun w hw => ?_)
                  have e : gErr l p = 15 := (by rw [gErr, if_pos h1, if_neg (by omega), if_pos hall, if_neg (fun hP => by have := hP.1 j hjl; unfold posOk at this; omega)]); exact .inr ⟨by omega, by rw [e], hw.nil⟩
                · have hok : posOk p j := (by unfold posOk; omega)
                  refine GE_skip ?_
                  refine GE_seq ?_
                  refine GE_slots (L' := [(7, _), (11, _), (12, _), (74, _), (75, _), (76, _), (84, _), (85, _), (86, _), (87, _), (88, _), (89, _), (90, _), (91, _), (92, _), (93, _), (94, _), (95, _), (96, _), (97, _), (98, _), (99, _), (100, _), (101, _), (102, _), (103, _), (104, _), (105, _), (106, _), (107, _), (108, _), (109, _), (112, _), (113, _), (114, _), (115, _)]) ⟨rfl, rfl, rfl, rfl, rfl, rfl, rfl, rfl, rfl, rfl, rfl, rfl, rfl, rfl, rfl, rfl, rfl, rfl, rfl, rfl, rfl, rfl, rfl, rfl, rfl, rfl, rfl, rfl, rfl, rfl, rfl, rfl, rfl, rfl, rfl, rfl, trivial⟩ ?_
                  refine GE_plain (.st 0 (.st 1 .nil)) rfl ?_
                  refine GT_st rfl rfl rfl rfl (V_move rfl rfl) ?_
                  refine GT_st rfl rfl rfl rfl (V_gtr rfl rfl rfl) ?_
                  refine GT_nil ?_
                  first | refine GE_condNot rfl (fun h10 => ?_) (fun h10 => ?_) | refine GE_cond rfl (fun h10 => ?_) (fun h10 => ?_) | refine GE_condNotB rfl (fun h10 => ?_) (fun h10 => ?_) | refine GE_condB rfl (fun h10 => ?_) (fun h10 => ?_)
                  · skip
                    refine GE_plain (.st 0 (.st 1 (.st 2 (.st 3 (.st 4 (.st 5 (.st 6 (.st 7 (.st 8 (.st 9 .nil)))))))))) rfl ?_
                    refine GT_st rfl rfl rfl rfl (V_move rfl rfl) ?_
                    first | refine GT_st rfl rfl rfl rfl (V_nilCheck rfl rfl) ?_ | refine GT_st rfl rfl rfl rfl (V_nilCheck_func rfl rfl) ?_ | refine GT_st rfl rfl rfl rfl (V_nilCheck_yield rfl rfl) ?_
                    first | refine GT_st rfl rfl rfl rfl (V_field rfl rfl fo_131_1) ?_ | refine GT_st rfl rfl rfl rfl (V_fieldA rfl rfl fo_131_1) ?_
                    refine GT_st rfl rfl rfl rfl (V_load rfl rfl ag_129 (CellAt.item rfl)) ?_
                    refine GT_st rfl rfl rfl rfl (V_move rfl rfl) ?_
                    refine GT_st rfl rfl rfl rfl (V_sub rfl rfl rfl (wrap_i64 (by omega))) ?_
                    refine GT_st rfl rfl rfl rfl (V_index rfl rfl rfl Tryz.underlying129 sz_133 (k := j - 1) (by omega) (by omega) (hO.isSome (k := j) (by rw [plcs_len]; exact hjl))) ?_
                    first | refine GT_st rfl rfl rfl rfl (V_field rfl rfl fo_133_3) ?_ | refine GT_st rfl rfl rfl rfl (V_fieldA rfl rfl fo_133_3) ?_
                    refine GT_st rfl rfl rfl rfl (V_load rfl rfl ag_3 (CellAt.own (k := j - 1) hO ePlc_len (by rw [plcs_len]; omega) (by rw [plcs_get (by omega)]; exact (show (ePlc (plc p (j - 1)))[9]? = some (I (en p (j - 1))) from rfl)))) ?_
                    refine GT_st rfl rfl rfl rfl (V_assign rfl rfl) ?_
                    refine GT_nil ?_
                    refine GE_inBlock ?_
                    refine GE_slots (L' := [(7, _), (11, _), (74, _), (75, _), (76, _), (84, _), (85, _), (86, _), (87, _), (88, _), (89, _), (90, _), (91, _), (92, _), (93, _), (94, _), (95, _), (96, _), (97, _), (98, _), (99, _), (100, _), (101, _), (102, _), (103, _), (104, _), (105, _), (106, _), (107, _), (108, _), (109, _), (112, _), (113, _), (114, _), (115, _)]) ⟨rfl, rfl, rfl, rfl, rfl, rfl, rfl, rfl, rfl, rfl, rfl, rfl, rfl, rfl, rfl, rfl, rfl, rfl, rfl, rfl, rfl, rfl, rfl, rfl, rfl, rfl, rfl, rfl, rfl, rfl, rfl, rfl, rfl, rfl, rfl, trivial⟩ ?_
                    refine GE_plain (.st 0 (.ld 1 [] .nil)) rfl ?_
                    refine GT_st rfl rfl rfl rfl (V_add rfl rfl rfl (wrap_i64 (by omega))) ?_
                    refine GT_ldv rfl rfl rfl rfl rfl (V_move rfl rfl) (GR_nil) ?_
                    refine GT_nil ?_
                    first
                      | exact GE_to (ih2 (j + 1, en p (j - 1)) ⟨by dsimp only; omega, fun i hi => by rcases Nat.lt_or_ge i j with r | r; exact hps i r; rw [show i = j by dsimp only at hi; omega]; exact hok, fun q => by dsimp only at q; omega, fun _ => by dsimp only; rw [show j + 1 - 2 = j - 1 by omega]⟩ (by dsimp only; omega)) ⟨rfl, rfl, rfl, rfl, rfl, trivial⟩ (HS.cons rfl HS.last)
                      | exact GE_to (ih2 (j + 1, fr) ⟨by dsimp only; omega, fun i hi => by rcases Nat.lt_or_ge i j with r | r; exact hps i r; rw [show i = j by dsimp only at hi; omega]; exact hok, fun q => hf1 (by omega), fun q => by dsimp only at q; omega⟩ (by dsimp only; omega)) ⟨rfl, rfl, rfl, rfl, rfl, trivial⟩ (HS.cons rfl HS.last)
                  · skip
                    refine GE_skip ?_
                    refine GE_inBlock ?_
                    refine GE_plain (.st 0 (.ld 1 [] .nil)) rfl ?_
                    refine GT_st rfl rfl rfl rfl (V_add rfl rfl rfl (wrap_i64 (by omega))) ?_
                    refine GT_ldv rfl rfl rfl rfl rfl (V_move rfl rfl) (GR_nil) ?_
                    refine GT_nil ?_
                    first
                      | exact GE_to (ih2 (j + 1, en p (j - 1)) ⟨by dsimp only; omega, fun i hi => by rcases Nat.lt_or_ge i j with r | r; exact hps i r; rw [show i = j by dsimp only at hi; omega]; exact hok, fun q => by dsimp only at q; omega, fun _ => by dsimp only; rw [show j + 1 - 2 = j - 1 by omega]⟩ (by dsimp only; omega)) ⟨rfl, rfl, rfl, rfl, rfl, trivial⟩ (HS.cons rfl HS.last)
                      | exact GE_to (ih2 (j + 1, fr) ⟨by dsimp only; omega, fun i hi => by rcases Nat.lt_or_ge i j with r | r; exact hps i r; rw [show i = j by dsimp only at hi; omega]; exact hok, fun q => hf1 (by omega), fun q => by dsimp only at q; omega⟩ (by dsimp only; omega)) ⟨rfl, rfl, rfl, rfl, rfl, trivial⟩ (HS.cons rfl HS.last)
            · obtain rfl : j = p.length := (by omega)
              refine GE_exit rfl ?_
              refine GE_seq ?_
              refine GE_seq ?_
              refine GE_slots (L' := [(7, _)]) ⟨rfl, trivial⟩ ?_
              refine GE_plain (.st 0 (.st 1 (.st 2 (.st 3 (.st 4 .nil))))) rfl ?_
              refine GT_st rfl rfl rfl rfl (V_move rfl rfl) ?_
              first | refine GT_st rfl rfl rfl rfl (V_nilCheck rfl rfl) ?_ | refine GT_st rfl rfl rfl rfl (V_nilCheck_func rfl rfl) ?_ | refine GT_st rfl rfl rfl rfl (V_nilCheck_yield rfl rfl) ?_
              first | refine GT_st rfl rfl rfl rfl (V_field rfl rfl fo_131_2) ?_ | refine GT_st rfl rfl rfl rfl (V_fieldA rfl rfl fo_131_2) ?_
              refine GT_st rfl rfl rfl rfl (V_load rfl rfl ag_3 (CellAt.item rfl)) ?_
              refine GT_st rfl rfl rfl rfl (V_gtr rfl rfl rfl) ?_
              refine GT_nil ?_
              first | refine GE_condNot rfl (fun h11 => ?_) (fun h11 => ?_) | refine GE_cond rfl (fun h11 => ?_) (fun h11 => ?_) | refine GE_condNotB rfl (fun h11 => ?_) (fun h11 => ?_) | refine GE_condB rfl (fun h11 => ?_) (fun h11 => ?_)
              · skip
                refine GE_seq ?_
                refine GE_slots (L' := []) trivial ?_
                refine GE_plain (.st 0 (.st 1 .nil)) rfl ?_
                refine GT_st rfl rfl rfl rfl (V_assign rfl rfl) ?_
                refine GT_st rfl rfl rfl rfl (V_assign rfl rfl) ?_
                refine GT_nil ?_
                refine GE_ret Tryz.func49 ⟨_, _, rfl, rfl, rfl⟩ (fun w hw => ?_)
                have e : gErr l p = 15 := (by rw [gErr, if_pos h1, if_neg (by omega), if_pos hall, if_neg (fun hP => by have := hP.2; omega)]); exact .inr ⟨by omega, by rw [e], hw.nil⟩
              · skip
                refine GE_skip ?_
                refine GE_seq ?_
                refine GE_slots (L' := [(7, _)]) ⟨rfl, trivial⟩ ?_
                refine GE_plain (.st 0 (.st 1 (.st 2 .nil))) rfl ?_
                refine GT_st rfl rfl rfl rfl (V_move rfl rfl) ?_
                refine GT_st rfl rfl rfl rfl (V_assign rfl rfl) ?_
                refine GT_st rfl rfl rfl rfl (V_assign rfl rfl) ?_
                refine GT_nil ?_
                refine GE_ret Tryz.func49 ⟨_, _, rfl, rfl, rfl⟩ (fun w hw => ?_)
                first | exact .inl ⟨gErr_zero.2 ⟨hl, by omega, fun i hi => goodP_iff.1 (hgd i hi), hps, by omega⟩, b24, A', c', I', hO, rfl, hw⟩ | (have e : gErr l p = 15 := (by rw [gErr, if_pos h1, if_neg (by omega), if_pos hall, if_neg (fun hP => by have := hP.1 j hjl; unfold posOk at this; omega)]); exact .inr ⟨by omega, by rw [e], hw.nil⟩)
          · exact ⟨Nat.zero_le _, fun i hi => absurd hi (Nat.not_lt_zero _), fun _ => rfl, fun h => absurd h (by decide)⟩
      · exact ⟨Nat.zero_le _, fun i hi => absurd hi (Nat.not_lt_zero _), Own.nil⟩
end
end Go.Proofs.YtogljfjbilndnaaGreatDoor.Take
/- Sounds of samples, walked. -/
namespace Go.Proofs.YtogljfjbilndnaaGreatDoor.Take
open Go.Sx Go.Proofs Go.RowKit

/-- a sound, and the error of Sound -/
def sndE (l : List Tk) (p : List Prt) (i k : Int) : Int := if gErr l p = 0 then (if 0 ≤ i ∧ i < (p.length : Int) ∧ 0 ≤ k ∧ k < lng (pt p i.toNat) then 0 else 3) else gErr l p
def sndV (l : List Tk) (p : List Prt) (i k : Int) : Sam := if sndE l p i k = 0 then snd l (pt p i.toNat) k (pt p i.toNat).lev else ⟨0, 0⟩
section
variable {w : World} {A A2 : Option Addr} {c c2 : Nat} {l : List Tk} {p : List Prt}
theorem C_new_ok (h : Tks w A l) (hp : RdL w 7 ePrt A2 p) (hg : gErr l p = 0) : Con Tryz.prog 49 [.slice A l.length c, .slice A2 p.length c2] w (fun y : Nat × Option Addr × Nat × Items => Own 10 133 ePlc (plcs p p.length) (.slice y.2.1 p.length y.2.2.1) y.2.2.2)
    (fun y => .tuple #[ptr y.1 0, I 0]) (fun y => (y.1, blk [.slice A l.length c, .slice y.2.1 p.length y.2.2.1, I (fin p)] 131) :: y.2.2.2) :=
  (C_new h hp).mono fun v w' hr => by
    rcases hr with ⟨_, b, A', c', I', hO, e, hs⟩ | ⟨hn, _⟩
    · exact ⟨(b, A', c', I'), hO, e, hs⟩
    · exact absurd hg hn
theorem C_new_bad (h : Tks w A l) (hp : RdL w 7 ePrt A2 p) (hg : ¬ gErr l p = 0) : Con0 Tryz.prog 49 [.slice A l.length c, .slice A2 p.length c2] w (.tuple #[.pointer none, I (gErr l p)]) :=
  (C_new h hp).mono fun v w' hr => by
    rcases hr with ⟨hn, _⟩ | ⟨_, e, hs⟩
    · exact absurd hn hg
    · exact ⟨e, hs⟩
theorem C_sum {a b : Sam} (ha : a.bd 100000000) (hb : b.bd 100000000) : Con0 Tryz.prog 50 [.agg #[I a.l, I a.r], .agg #[I b.l, I b.r]] w (.agg #[I (sad a b).l, I (sad a b).r]) := by
  unfold Sam.bd at ha hb
  refine Ret_of (vs := [_, _]) hm none' Tryz.func50 rfl Tryz.ntmps50 rfl ?_
  dsimp only [slotsOf]
  refine GE_seq ?_
  refine GE_plain (.ld 0 [] (.ld 1 [] (.ld 2 [] .nil))) rfl ?_
  refine GT_box (z := [_, _]) rfl rfl rfl rfl rfl rfl rfl (fun _ => GR_nil) (fun b2 => ?_)
  refine GT_box (z := [_, _]) rfl rfl rfl rfl rfl rfl rfl (fun _ => GR_nil) (fun b3 => ?_)
  refine GT_alloc rfl rfl rfl rfl rfl zc_80 (fun _ => GR_nil) (fun b4 => ?_)
  refine GT_nil ?_
  refine GE_seq ?_
  refine GE_plain (.st 0 (.st 1 (.st 2 (.st 3 (.st 4 (.st 5 (.st 6 (.st 7 (.st 8 (.st 9 (.st 10 (.ld 11 [] .nil)))))))))))) rfl ?_
  first | refine GT_st rfl rfl rfl rfl (V_field rfl rfl fo_80_0) ?_ | refine GT_st rfl rfl rfl rfl (V_fieldA rfl rfl fo_80_0) ?_
  refine GT_st rfl rfl rfl rfl (V_load rfl rfl ag_2 (CellAt.item rfl)) ?_
  first | refine GT_st rfl rfl rfl rfl (V_field rfl rfl fo_80_0) ?_ | refine GT_st rfl rfl rfl rfl (V_fieldA rfl rfl fo_80_0) ?_
  refine GT_st rfl rfl rfl rfl (V_load rfl rfl ag_2 (CellAt.item rfl)) ?_
  refine GT_st rfl rfl rfl rfl (V_add rfl rfl rfl (wrap_i64 (by omega))) ?_
  first | refine GT_st rfl rfl rfl rfl (V_field rfl rfl fo_80_1) ?_ | refine GT_st rfl rfl rfl rfl (V_fieldA rfl rfl fo_80_1) ?_
  refine GT_st rfl rfl rfl rfl (V_load rfl rfl ag_2 (CellAt.item rfl)) ?_
  first | refine GT_st rfl rfl rfl rfl (V_field rfl rfl fo_80_1) ?_ | refine GT_st rfl rfl rfl rfl (V_fieldA rfl rfl fo_80_1) ?_
  refine GT_st rfl rfl rfl rfl (V_load rfl rfl ag_2 (CellAt.item rfl)) ?_
  refine GT_st rfl rfl rfl rfl (V_add rfl rfl rfl (wrap_i64 (by omega))) ?_
  refine GT_st rfl rfl rfl rfl (V_build (vs := [_, _]) rfl rfl zc_80 pl_80 sa_80 rfl) ?_
  refine GT_store (vs := [_, _]) (l' := [_, _]) rfl rfl rfl rfl rfl rfl rfl sz_80 rfl rfl (Nat.le_of_ble_eq_true rfl) rfl (GR_nil) ?_
  refine GT_nil ?_
  refine GE_ret Tryz.func50 ⟨_, rfl, fun w m => run_loadVar_agg (vs := [_, _]) ag_80 sz_80 rfl (fun j v hj => CellsAt.item rfl j v hj w m)⟩ (fun w hw => ⟨?_, hw.nil⟩)
  rfl
theorem C_gain {i : Nat} (hi : i < p.length) (hg : ProgOk l p) {k lev : Int} (h0 : 0 ≤ k) (h1 : k < lng (pt p i)) (h2 : 0 ≤ lev) (h3 : lev ≤ 16000) :
    Con0 Tryz.prog 86 [.agg #[I (pt p i).tk, I (pt p i).fr, I (pt p i).to, I (pt p i).gap, I (pt p i).inn, I (pt p i).out, I (pt p i).lev, I i, I (bgn p i), I (en p i)], I k, I lev] w (.agg #[I (gnN (pt p i) k lev), I (gnD (pt p i))]) := by
  have ho := hg.each i hi
  have hu := up_bd ho h0
  have hd := dn_bd ho h1
  have hin := ho.inn
  have hout := ho.out
  have hD := gnD_pos ho
  have hb := bgn_mono hg i hi
  have he := en_fin hg hi
  have hf := hg.fin
  have hen : en p i = bgn p i + lng (pt p i) := rfl
  have m1 := mul_bd h2 h3 (b := up (pt p i) k) (B := 1001) (by omega) (by omega)
  have m2 := mul_bd m1.1 m1.2 (b := dn (pt p i) k) (B := 1001) (by omega) (by omega)
  refine Ret_of (vs := [_, _, _]) hm none' Tryz.func86 rfl Tryz.ntmps86 rfl ?_
  dsimp only [slotsOf]
  refine GE_seq ?_
  refine GE_plain (.ld 0 [] (.ld 1 [] .nil)) rfl ?_
  refine GT_box (z := [_, _, _, _, _, _, _, _, _, _]) rfl rfl rfl rfl rfl rfl rfl (fun _ => GR_nil) (fun b3 => ?_)
  refine GT_alloc rfl rfl rfl rfl rfl zc_181 (fun _ => GR_nil) (fun b6 => ?_)
  refine GT_nil ?_
  refine GE_seq ?_
  refine GE_drawn (.st 0 (.st 1 (.st 2 (.st 3 (.st 4 (.st 5 (.st 6 (.st 7 (.st 8 (.st 9 (.st 10 (.st 11 (.st 12 (.st 13 (.st 14 (.st 15 (.st 16 (.st 17 (.st 18 (.st 19 (.st 20 .nil))))))))))))))))))))) [] (by decide +kernel) ?_
  refine GT_st rfl rfl rfl rfl (V_move rfl rfl) ?_
  first | refine GT_st rfl rfl rfl rfl (V_field rfl rfl fo_133_0) ?_ | refine GT_st rfl rfl rfl rfl (V_fieldA rfl rfl fo_133_0) ?_
  first | refine GT_st rfl rfl rfl rfl (V_field rfl rfl fo_92_4) ?_ | refine GT_st rfl rfl rfl rfl (V_fieldA rfl rfl fo_92_4) ?_
  refine GT_st rfl rfl rfl rfl (V_load rfl rfl ag_3 (CellAt.item rfl)) ?_
  refine GT_st rfl rfl rfl rfl (V_min rfl rfl rfl) ?_
  refine GT_st rfl rfl rfl rfl (V_add rfl rfl rfl ((wrap_i64 (by omega)).trans (show _ = up (pt p i) k from rfl))) ?_
  first | refine GT_st rfl rfl rfl rfl (V_field rfl rfl fo_133_3) ?_ | refine GT_st rfl rfl rfl rfl (V_fieldA rfl rfl fo_133_3) ?_
  refine GT_st rfl rfl rfl rfl (V_load rfl rfl ag_3 (CellAt.item rfl)) ?_
  first | refine GT_st rfl rfl rfl rfl (V_field rfl rfl fo_133_2) ?_ | refine GT_st rfl rfl rfl rfl (V_fieldA rfl rfl fo_133_2) ?_
  refine GT_st rfl rfl rfl rfl (V_load rfl rfl ag_3 (CellAt.item rfl)) ?_
  refine GT_st rfl rfl rfl rfl (V_sub rfl rfl rfl (wrap_i64 (by omega))) ?_
  refine GT_st rfl rfl rfl rfl (V_move rfl rfl) ?_
  refine GT_st rfl rfl rfl rfl (V_sub rfl rfl rfl (wrap_i64 (by omega))) ?_
  refine GT_st rfl rfl rfl rfl (V_sub rfl rfl rfl (wrap_i64 (by omega))) ?_
  first | refine GT_st rfl rfl rfl rfl (V_field rfl rfl fo_133_0) ?_ | refine GT_st rfl rfl rfl rfl (V_fieldA rfl rfl fo_133_0) ?_
  first | refine GT_st rfl rfl rfl rfl (V_field rfl rfl fo_92_5) ?_ | refine GT_st rfl rfl rfl rfl (V_fieldA rfl rfl fo_92_5) ?_
  refine GT_st rfl rfl rfl rfl (V_load rfl rfl ag_3 (CellAt.item rfl)) ?_
  refine GT_st rfl rfl rfl rfl (V_min rfl rfl rfl) ?_
  refine GT_st rfl rfl rfl rfl (V_add rfl rfl rfl ((wrap_i64 (by omega)).trans (show _ = dn (pt p i) k by unfold dn; rw [hen]; omega))) ?_
  refine GT_st rfl rfl rfl rfl (V_assign rfl rfl) ?_
  refine GT_st rfl rfl rfl rfl (V_assign rfl rfl) ?_
  refine GT_nil ?_
  refine GE_seq ?_
  refine GE_slots (L' := [(2, _), (3, _), (6, _), (7, _), (8, _)]) ⟨rfl, rfl, rfl, rfl, rfl, trivial⟩ ?_
  refine GE_plain (.st 0 (.st 1 (.st 2 (.st 3 (.st 4 (.st 5 (.st 6 (.st 7 (.st 8 (.st 9 (.st 10 (.st 11 (.st 12 (.st 13 (.st 14 (.st 15 (.ld 16 [] .nil))))))))))))))))) rfl ?_
  refine GT_st rfl rfl rfl rfl (V_move rfl rfl) ?_
  refine GT_st rfl rfl rfl rfl (V_move rfl rfl) ?_
  refine GT_st rfl rfl rfl rfl (V_mul rfl rfl rfl (wrap_i64 (by omega))) ?_
  refine GT_st rfl rfl rfl rfl (V_move rfl rfl) ?_
  refine GT_st rfl rfl rfl rfl (V_mul rfl rfl rfl ((wrap_i64 (by omega)).trans (show _ = gnN (pt p i) k lev from rfl))) ?_
  first | refine GT_st rfl rfl rfl rfl (V_field rfl rfl fo_133_0) ?_ | refine GT_st rfl rfl rfl rfl (V_fieldA rfl rfl fo_133_0) ?_
  first | refine GT_st rfl rfl rfl rfl (V_field rfl rfl fo_92_4) ?_ | refine GT_st rfl rfl rfl rfl (V_fieldA rfl rfl fo_92_4) ?_
  refine GT_st rfl rfl rfl rfl (V_load rfl rfl ag_3 (CellAt.item rfl)) ?_
  refine GT_st rfl rfl rfl rfl (V_add rfl rfl rfl (wrap_i64 (by omega))) ?_
  refine GT_st rfl rfl rfl rfl (V_mul rfl rfl rfl (wrap_i64 (by omega))) ?_
  first | refine GT_st rfl rfl rfl rfl (V_field rfl rfl fo_133_0) ?_ | refine GT_st rfl rfl rfl rfl (V_fieldA rfl rfl fo_133_0) ?_
  first | refine GT_st rfl rfl rfl rfl (V_field rfl rfl fo_92_5) ?_ | refine GT_st rfl rfl rfl rfl (V_fieldA rfl rfl fo_92_5) ?_
  refine GT_st rfl rfl rfl rfl (V_load rfl rfl ag_3 (CellAt.item rfl)) ?_
  refine GT_st rfl rfl rfl rfl (V_add rfl rfl rfl (wrap_i64 (by omega))) ?_
  refine GT_st rfl rfl rfl rfl (V_mul rfl rfl rfl ((wrap_i64 (by unfold gnD at hD; omega)).trans (show _ = gnD (pt p i) from rfl))) ?_
  refine GT_st rfl rfl rfl rfl (V_build (vs := [_, _]) rfl rfl zc_181 pl_181 sa_181 rfl) ?_
  refine GT_store (vs := [_, _]) (l' := [_, _]) rfl rfl rfl rfl rfl rfl rfl sz_181 rfl rfl (Nat.le_of_ble_eq_true rfl) rfl (GR_nil) ?_
  refine GT_nil ?_
  refine GE_ret Tryz.func86 ⟨_, rfl, fun w m => run_loadVar_agg (vs := [_, _]) ag_181 sz_181 rfl (fun j v hj => CellsAt.item rfl j v hj w m)⟩ (fun w hw => ⟨?_, hw.nil⟩)
  rfl
theorem C_of {n d s : Int} (hd : 1 ≤ d) (h : amt (s * n) ≤ 9000000000000000000) : Con0 Tryz.prog 87 [.agg #[I n, I d], I s] w (I ((s * n).tdiv d)) := by
  have hq : amt ((s * n).tdiv d) ≤ amt (s * n) := by
    have := tdiv_bd (a := s * n) (d := d) (c := 1000 * amt (s * n)) (by omega) (by have := amt_nonneg (s * n); omega) (by
      have h0 := amt_nonneg (s * n)
      have := Int.mul_le_mul_of_nonneg_left hd (show 0 ≤ 1000 * amt (s * n) by omega)
      rw [Int.mul_one] at this
      exact this)
    omega
  unfold amt at h hq
  refine Ret_of (vs := [_, _]) hm none' Tryz.func87 rfl Tryz.ntmps87 rfl ?_
  dsimp only [slotsOf]
  refine GE_seq ?_
  refine GE_plain (.ld 0 [] (.st 1 .nil)) rfl ?_
  refine GT_box (z := [_, _]) rfl rfl rfl rfl rfl rfl rfl (fun _ => GR_nil) (fun b2 => ?_)
  refine GT_st rfl rfl rfl rfl (V_assign rfl rfl) ?_
  refine GT_nil ?_
  refine GE_seq ?_
  refine GE_plain (.st 0 (.st 1 (.st 2 (.st 3 (.st 4 (.st 5 (.st 6 (.st 7 .nil)))))))) rfl ?_
  refine GT_st rfl rfl rfl rfl (V_move rfl rfl) ?_
  first | refine GT_st rfl rfl rfl rfl (V_field rfl rfl fo_181_0) ?_ | refine GT_st rfl rfl rfl rfl (V_fieldA rfl rfl fo_181_0) ?_
  refine GT_st rfl rfl rfl rfl (V_load rfl rfl ag_2 (CellAt.item rfl)) ?_
  refine GT_st rfl rfl rfl rfl (V_mul rfl rfl rfl (wrap_i64 (by omega))) ?_
  first | refine GT_st rfl rfl rfl rfl (V_field rfl rfl fo_181_1) ?_ | refine GT_st rfl rfl rfl rfl (V_fieldA rfl rfl fo_181_1) ?_
  refine GT_st rfl rfl rfl rfl (V_load rfl rfl ag_2 (CellAt.item rfl)) ?_
  refine GT_st rfl rfl rfl rfl (V_quo rfl rfl rfl (by omega) (wrap_i64 (by omega))) ?_
  refine GT_st rfl rfl rfl rfl (V_assign rfl rfl) ?_
  refine GT_nil ?_
  refine GE_ret Tryz.func87 rfl (fun w hw => ⟨?_, hw.nil⟩)
  rfl
theorem C_sound {i g : Nat} {X Y : Value} (hi : i < p.length) (hg : ProgOk l p) {k lev : Int} (h0 : 0 ≤ k) (h1 : k < lng (pt p i)) (h2 : 0 ≤ lev) (h3 : lev ≤ 16000) (h : Tks w A l) (hb : BlkAt w g [.slice A l.length c, X, Y] 131) :
    Con0 Tryz.prog 51 [ptr g 0, .agg #[I (pt p i).tk, I (pt p i).fr, I (pt p i).to, I (pt p i).gap, I (pt p i).inn, I (pt p i).out, I (pt p i).lev, I i, I (bgn p i), I (en p i)], I k, I lev] w (.agg #[I (snd l (pt p i) k lev).l, I (snd l (pt p i) k lev).r]) := by
  have ho := hg.each i hi
  have hsm := smp_ok hg.tks ho h0 h1
  obtain ⟨q1, q2, q3, q4⟩ := hsm
  have hD := gnD_pos ho
  have hN := gnN_bd ho h0 h1 h2
  have hdat := (h.2 _ (getD_mem q2)).1
  have hfr := ho.fr0
  have hfr1 := ho.frto
  have hto := ho.to1
  have htk := ho.tk0
  have hlen : (tkOf l (pt p i)).data.length ≤ 4096 := (tErr_zero.1 (hg.tks.each _ (getD_mem q2))).1
  have hk : k < (pt p i).to - (pt p i).fr := h1
  have hgn : gnN (pt p i) k lev ≤ 16032016000 := by
    have m := mul_bd h2 h3 (b := gnD (pt p i)) (B := 1002001000) (by omega) hD.2
    omega
  have hb1 : amt ((smp l (pt p i) k).l * gnN (pt p i) k lev) ≤ 9000000000000000000 := by
    rw [amt_mul hN.1]; have := mul_bd (amt_nonneg (smp l (pt p i) k).l) (A := 32767) (by unfold amt; omega) hN.1 hgn; omega
  have hb2 : amt ((smp l (pt p i) k).r * gnN (pt p i) k lev) ≤ 9000000000000000000 := by
    rw [amt_mul hN.1]; have := mul_bd (amt_nonneg (smp l (pt p i) k).r) (A := 32767) (by unfold amt; omega) hN.1 hgn; omega
  refine Ret_of (vs := [_, _, _, _]) hm none' Tryz.func51 rfl Tryz.ntmps51 rfl ?_
  dsimp only [slotsOf]
  refine GE_seq ?_
  refine GE_plain (.ld 0 [] (.ld 1 [] .nil)) rfl ?_
  refine GT_box (z := [_, _, _, _, _, _, _, _, _, _]) rfl rfl rfl rfl rfl rfl rfl (fun _ => GR_nil) (fun b5 => ?_)
  refine GT_alloc rfl rfl rfl rfl rfl zc_80 (fun _ => GR_nil) (fun b8 => ?_)
  refine GT_nil ?_
  refine GE_seq ?_
  refine GE_plain (.st 0 (.st 1 (.st 2 (.ld 3 [] (.st 4 (.st 5 .nil)))))) rfl ?_
  refine GT_st rfl rfl rfl rfl (V_loadN (vs := [_, _, _, _, _, _, _, _, _, _]) rfl rfl ag_133 sz_133 rfl (CellsAt.item rfl)) ?_
  refine GT_st rfl rfl rfl rfl (V_move rfl rfl) ?_
  refine GT_st rfl rfl rfl rfl (V_move rfl rfl) ?_
  refine GT_call0 rfl rfl rfl rfl rfl rfl rfl rfl rn_86 (fun w hw => C_gain hi hg h0 h1 h2 h3) (GR_nil) ?_
  refine GT_st rfl rfl rfl rfl (V_makeFunc rfl rfl rfl) ?_
  refine GT_st rfl rfl rfl rfl (V_assign rfl rfl) ?_
  refine GT_nil ?_
  refine GE_seq ?_
  refine GE_slots (L' := [(0, _), (2, _), (5, _), (8, _), (9, _)]) ⟨rfl, rfl, rfl, rfl, rfl, trivial⟩ ?_
  refine GE_drawn (.st 0 (.st 1 (.st 2 (.st 3 (.st 4 (.st 5 (.st 6 (.st 7 (.st 8 (.st 9 (.st 10 (.st 11 (.st 12 (.st 13 (.st 14 (.st 15 (.st 16 (.ld 17 [0, 1, 2, 3, 4, 5, 6, 7, 8, 9, 10, 11, 12, 13, 14, 15, 16] (.ld 18 [] .nil))))))))))))))))))) [17, 18] (by decide +kernel) ?_
  refine GT_st rfl rfl rfl rfl (V_move rfl rfl) ?_
  first | refine GT_st rfl rfl rfl rfl (V_nilCheck rfl rfl) ?_ | refine GT_st rfl rfl rfl rfl (V_nilCheck_func rfl rfl) ?_ | refine GT_st rfl rfl rfl rfl (V_nilCheck_yield rfl rfl) ?_
  first | refine GT_st rfl rfl rfl rfl (V_field rfl rfl fo_131_0) ?_ | refine GT_st rfl rfl rfl rfl (V_fieldA rfl rfl fo_131_0) ?_
  refine GT_st rfl rfl rfl rfl (V_load rfl rfl ag_90 (.old (hb.cell rfl) (noM _))) ?_
  first | refine GT_st rfl rfl rfl rfl (V_field rfl rfl fo_133_0) ?_ | refine GT_st rfl rfl rfl rfl (V_fieldA rfl rfl fo_133_0) ?_
  first | refine GT_st rfl rfl rfl rfl (V_field rfl rfl fo_92_0) ?_ | refine GT_st rfl rfl rfl rfl (V_fieldA rfl rfl fo_92_0) ?_
  refine GT_st rfl rfl rfl rfl (V_load rfl rfl ag_3 (CellAt.item rfl)) ?_
  refine GT_st rfl rfl rfl rfl (V_index rfl rfl rfl Tryz.underlying90 sz_89 (k := (pt p i).tk.toNat) (by omega) q2 (h.1.isSome q2)) ?_
  first | refine GT_st rfl rfl rfl rfl (V_field rfl rfl fo_89_1) ?_ | refine GT_st rfl rfl rfl rfl (V_fieldA rfl rfl fo_89_1) ?_
  refine GT_st rfl rfl rfl rfl (V_load rfl rfl ag_81 (h.1.at1 noM q2 rfl)) ?_
  first | refine GT_st rfl rfl rfl rfl (V_field rfl rfl fo_133_0) ?_ | refine GT_st rfl rfl rfl rfl (V_fieldA rfl rfl fo_133_0) ?_
  first | refine GT_st rfl rfl rfl rfl (V_field rfl rfl fo_92_1) ?_ | refine GT_st rfl rfl rfl rfl (V_fieldA rfl rfl fo_92_1) ?_
  refine GT_st rfl rfl rfl rfl (V_load rfl rfl ag_3 (CellAt.item rfl)) ?_
  refine GT_st rfl rfl rfl rfl (V_move rfl rfl) ?_
  refine GT_st rfl rfl rfl rfl (V_add rfl rfl rfl (wrap_i64 (by omega))) ?_
  refine GT_st rfl rfl rfl rfl (V_index rfl rfl rfl Tryz.underlying81 sz_80 (k := ((pt p i).fr + k).toNat) (by omega) q1 (hdat.isSome q1)) ?_
  refine GT_st rfl rfl rfl rfl (V_loadN (vs := [_, _]) rfl rfl ag_80 sz_80 rfl (show CellsAt _ _ _ (eSam (smp l (pt p i) k)) from hdat.ats noM q1)) ?_
  refine GT_alloc rfl rfl rfl rfl rfl zc_80 (fun _ => GR_cons rfl rfl rfl rfl (V_move rfl rfl) (GR_cons rfl rfl rfl rfl ((by first | exact V_nilCheck rfl rfl | exact V_nilCheck_func rfl rfl | exact V_nilCheck_yield rfl rfl)) (GR_cons rfl rfl rfl rfl ((by first | exact V_field rfl rfl fo_131_0 | exact V_fieldA rfl rfl fo_131_0)) (GR_cons rfl rfl rfl rfl (V_load rfl rfl ag_90 (.old (hb.cell rfl) (noM _))) (GR_cons rfl rfl rfl rfl ((by first | exact V_field rfl rfl fo_133_0 | exact V_fieldA rfl rfl fo_133_0)) (GR_cons rfl rfl rfl rfl ((by first | exact V_field rfl rfl fo_92_0 | exact V_fieldA rfl rfl fo_92_0)) (GR_cons rfl rfl rfl rfl (V_load rfl rfl ag_3 (CellAt.item rfl)) (GR_cons rfl rfl rfl rfl (V_index rfl rfl rfl Tryz.underlying90 sz_89 (k := (pt p i).tk.toNat) (by omega) q2 (h.1.isSome q2)) (GR_cons rfl rfl rfl rfl ((by first | exact V_field rfl rfl fo_89_1 | exact V_fieldA rfl rfl fo_89_1)) (GR_cons rfl rfl rfl rfl (V_load rfl rfl ag_81 (h.1.at1 noM q2 rfl)) (GR_cons rfl rfl rfl rfl ((by first | exact V_field rfl rfl fo_133_0 | exact V_fieldA rfl rfl fo_133_0)) (GR_cons rfl rfl rfl rfl ((by first | exact V_field rfl rfl fo_92_1 | exact V_fieldA rfl rfl fo_92_1)) (GR_cons rfl rfl rfl rfl (V_load rfl rfl ag_3 (CellAt.item rfl)) (GR_cons rfl rfl rfl rfl (V_move rfl rfl) (GR_cons rfl rfl rfl rfl (V_add rfl rfl rfl (wrap_i64 (by omega))) (GR_cons rfl rfl rfl rfl (V_index rfl rfl rfl Tryz.underlying81 sz_80 (k := ((pt p i).fr + k).toNat) (by omega) q1 (hdat.isSome q1)) (GR_cons rfl rfl rfl rfl (V_loadN (vs := [_, _]) rfl rfl ag_80 sz_80 rfl (show CellsAt _ _ _ (eSam (smp l (pt p i) k)) from hdat.ats noM q1)) (GR_nil)))))))))))))))))) (fun b10 => ?_)
  refine GT_store (vs := [_, _]) (l' := [_, _]) rfl rfl rfl rfl rfl rfl rfl sz_80 rfl rfl (Nat.le_of_ble_eq_true rfl) rfl (GR_nil) ?_
  refine GT_nil ?_
  refine GE_seq ?_
  refine GE_slots (L' := [(8, _), (9, _), (10, _)]) ⟨rfl, rfl, rfl, trivial⟩ ?_
  refine GE_drawn (.st 0 (.st 1 (.st 2 (.st 4 (.st 5 (.st 6 (.ld 3 [4, 5, 6] (.ld 7 [] (.st 8 (.ld 9 [] .nil)))))))))) [3, 7, 9] (by decide +kernel) ?_
  refine GT_st rfl rfl rfl rfl (V_move rfl rfl) ?_
  first | refine GT_st rfl rfl rfl rfl (V_field rfl rfl fo_80_0) ?_ | refine GT_st rfl rfl rfl rfl (V_fieldA rfl rfl fo_80_0) ?_
  refine GT_st rfl rfl rfl rfl (V_load rfl rfl ag_2 (CellAt.item rfl)) ?_
  refine GT_st rfl rfl rfl rfl (V_move rfl rfl) ?_
  first | refine GT_st rfl rfl rfl rfl (V_field rfl rfl fo_80_1) ?_ | refine GT_st rfl rfl rfl rfl (V_fieldA rfl rfl fo_80_1) ?_
  refine GT_st rfl rfl rfl rfl (V_load rfl rfl ag_2 (CellAt.item rfl)) ?_
  refine GT_call0 rfl rfl rfl rfl rfl rfl rfl rfl rn_87 (fun w hw => C_of (by omega) hb1) (GR_cons rfl rfl rfl rfl (V_move rfl rfl) (GR_cons rfl rfl rfl rfl ((by first | exact V_field rfl rfl fo_80_1 | exact V_fieldA rfl rfl fo_80_1)) (GR_cons rfl rfl rfl rfl (V_load rfl rfl ag_2 (CellAt.item rfl)) (GR_nil)))) ?_
  refine GT_call0 rfl rfl rfl rfl rfl rfl rfl rfl rn_87 (fun w hw => C_of (by omega) hb2) (GR_nil) ?_
  refine GT_st rfl rfl rfl rfl (V_build (vs := [_, _]) rfl rfl zc_80 pl_80 sa_80 rfl) ?_
  refine GT_store (vs := [_, _]) (l' := [_, _]) rfl rfl rfl rfl rfl rfl rfl sz_80 rfl rfl (Nat.le_of_ble_eq_true rfl) rfl (GR_nil) ?_
  refine GT_nil ?_
  refine GE_ret Tryz.func51 ⟨_, rfl, fun w m => run_loadVar_agg (vs := [_, _]) ag_80 sz_80 rfl (fun j v hj => CellsAt.item rfl j v hj w m)⟩ (fun w hw => ⟨?_, hw.nil⟩)
  rfl
end
end Go.Proofs.YtogljfjbilndnaaGreatDoor.Take
/- Programmes are rendered, walked. -/
namespace Go.Proofs.YtogljfjbilndnaaGreatDoor.Take
open Go.Sx Go.Proofs Go.RowKit

section
variable {w : World} {A A2 : Option Addr} {c c2 : Nat} {l : List Tk} {p : List Prt}
theorem vR_bd (hg : ProgOk l p) : ∀ i k, i < p.length → 0 ≤ k → k < lng (pt p i) → (vR l p i k).bd 1000000 := by
  intro i k hi h0 h1
  have ho := hg.each i hi
  exact snd_bd hg.tks ho h0 h1 ho.lev.1 (by have := ho.lev.2; omega)
theorem mixN_bd8 {v : Nat → Int → Sam} (hg : ProgOk l p) (hv : ∀ i k, i < p.length → 0 ≤ k → k < lng (pt p i) → (v i k).bd 1000000) {i : Nat} (hi : i ≤ p.length) (t : Int) : (mixN p v i t).bd 100000000 := by
  have h := mixN_bd (B := 1000000) (by decide) i t hi hv
  have := hg.most
  exact Sam.bd.mono h (by omega)
set_option maxRecDepth 10000 in
set_option maxHeartbeats 2000000 in
theorem C_Render (h : Tks w A l) (hp : RdL w 7 ePrt A2 p) : Con Tryz.prog 27 [.slice A l.length c, .slice A2 p.length c2] w (fun y : Option Addr × Nat × Items => Own 2 80 eSam (rendL l p) (.slice y.1 (rendL l p).length y.2.1) y.2.2)
    (fun y => .tuple #[.slice y.1 (rendL l p).length y.2.1, I (rErr l p)]) (fun y => y.2.2) := by
  by_cases hg : gErr l p = 0
  · have hP := gErr_zero.1 hg
    have hfl := hP.fin
    have hf0 := fin_nonneg hP
    have hml : (rend l p).length = (fin p).toNat := mix_len p (vR l p)
    have hpm := hP.most
    refine Ret_of (vs := [_, _]) hm none' Tryz.func27 rfl Tryz.ntmps27 rfl ?_
    dsimp only [slotsOf]
    refine GE_seq ?_
    refine GE_plain (.st 0 (.st 1 .nil)) rfl ?_
    refine GT_st rfl rfl rfl rfl (V_assign rfl rfl) ?_
    refine GT_st rfl rfl rfl rfl (V_assign rfl rfl) ?_
    refine GT_nil ?_
    refine GE_seq ?_
    refine GE_plain (.st 0 (.st 1 (.ld 2 [] (.st 3 (.st 4 (.st 5 (.st 6 (.st 7 .nil)))))))) rfl ?_
    refine GT_st rfl rfl rfl rfl (V_move rfl rfl) ?_
    refine GT_st rfl rfl rfl rfl (V_move rfl rfl) ?_
    refine GT_call rfl rfl rfl rfl rfl rfl rfl rfl rn_49 (fun w hw => C_new_ok (h.sh hw) (hp.sh hw) hg) (fun _ _ => GR_nil) (fun y hy => ?_)
    refine GT_st rfl rfl rfl rfl (V_move rfl rfl) ?_
    refine GT_st rfl rfl rfl rfl (V_extract rfl rfl rfl) ?_
    refine GT_st rfl rfl rfl rfl (V_extract rfl rfl rfl) ?_
    refine GT_st rfl rfl rfl rfl (V_assign rfl rfl) ?_
    refine GT_st rfl rfl rfl rfl (V_assign rfl rfl) ?_
    refine GT_nil ?_
    refine GE_seq ?_
    refine GE_seq ?_
    refine GE_slots (L' := [(6, _), (7, _)]) ⟨rfl, rfl, trivial⟩ ?_
    refine GE_plain (.st 0 (.st 1 .nil)) rfl ?_
    refine GT_st rfl rfl rfl rfl (V_move rfl rfl) ?_
    refine GT_st rfl rfl rfl rfl (V_isF (V_neq rfl rfl rfl) (by decide)) ?_
    refine GT_nil ?_
    refine GE_cond_f rfl ?_
    refine GE_skip ?_
    refine GE_seq ?_
    refine GE_plain (.st 0 (.st 1 (.st 2 (.st 3 (.ld 4 [] (.st 5 .nil)))))) rfl ?_
    refine GT_st rfl rfl rfl rfl (V_move rfl rfl) ?_
    first | refine GT_st rfl rfl rfl rfl (V_nilCheck rfl rfl) ?_ | refine GT_st rfl rfl rfl rfl (V_nilCheck_func rfl rfl) ?_ | refine GT_st rfl rfl rfl rfl (V_nilCheck_yield rfl rfl) ?_
    first | refine GT_st rfl rfl rfl rfl (V_field rfl rfl fo_131_2) ?_ | refine GT_st rfl rfl rfl rfl (V_fieldA rfl rfl fo_131_2) ?_
    refine GT_st rfl rfl rfl rfl (V_load rfl rfl ag_3 (CellAt.item rfl)) ?_
    refine GT_makeSlice rfl rfl rfl rfl rfl rfl rfl Tryz.underlying81 zc_80 sz_80 by_80 (nn := (fin p).toNat) ⟨by omega, by omega, rfl⟩ ⟨by omega, by omega⟩ (fun _ => GR_nil) (fun b25 => ?_)
    refine GT_st rfl rfl rfl rfl (V_assign rfl rfl) ?_
    refine GT_nil ?_
    refine GE_seq ?_
    refine GE_seq ?_
    refine GE_slots (L' := [(6, _), (8, _)]) ⟨rfl, rfl, trivial⟩ ?_
    refine GE_plain (.st 0 (.st 1 (.st 2 (.st 3 (.st 4 (.st 5 .nil)))))) rfl ?_
    refine GT_st rfl rfl rfl rfl (V_move rfl rfl) ?_
    first | refine GT_st rfl rfl rfl rfl (V_nilCheck rfl rfl) ?_ | refine GT_st rfl rfl rfl rfl (V_nilCheck_func rfl rfl) ?_ | refine GT_st rfl rfl rfl rfl (V_nilCheck_yield rfl rfl) ?_
    first | refine GT_st rfl rfl rfl rfl (V_field rfl rfl fo_131_1) ?_ | refine GT_st rfl rfl rfl rfl (V_fieldA rfl rfl fo_131_1) ?_
    refine GT_st rfl rfl rfl rfl (V_load rfl rfl ag_129 (CellAt.item rfl)) ?_
    refine GT_st rfl rfl rfl rfl (V_len rfl Tryz.underlying129 rfl) ?_
    refine GT_st rfl rfl rfl rfl (V_move rfl rfl) ?_
    refine GT_nil ?_
    refine GE_block ?_
    refine GE_to (GE_loop (ι := Nat × Items) (fun x => p.length - x.1) (fun x => [(6, ptr y.1 0), (8, .slice (some ⟨b25, 0, none⟩) (fin p).toNat (fin p).toNat), (29, .slice y.2.1 p.length y.2.2.1), (30, I p.length), (31, I x.1)]) (fun x => (y.1, blk [.slice A l.length c, .slice y.2.1 p.length y.2.2.1, I (fin p)] 131) :: (y.2.2.2 ++ x.2)) (fun x => x.1 ≤ p.length ∧ Own 2 80 eSam (mixP p (vR l p) x.1) (.slice (some ⟨b25, 0, none⟩) (fin p).toNat (fin p).toNat) x.2) ?_ (0, [(b25, blk ((List.replicate (fin p).toNat [I 0, I 0]).flatten) 80)]) ?_) ⟨rfl, rfl, rfl, rfl, rfl, trivial⟩ (HS.cons rfl (HS.chunk HS.last))
    · rintro ⟨i, I1⟩ ⟨hi, hO⟩ ih; dsimp only at hi hO ih ⊢
      refine GE_seq ?_
      refine GE_plain (.st 0 .nil) rfl ?_
      refine GT_st rfl rfl rfl rfl (V_lss rfl rfl rfl) ?_
      refine GT_nil ?_
      refine GE_seq ?_
      first | refine GE_condNot rfl (fun h1 => ?_) (fun h1 => ?_) | refine GE_cond rfl (fun h1 => ?_) (fun h1 => ?_) | refine GE_condNotB rfl (fun h1 => ?_) (fun h1 => ?_) | refine GE_condB rfl (fun h1 => ?_) (fun h1 => ?_)
      · have hil : i < p.length := (by omega); have hbi := bgn_mono hP i hil; have hei := en_fin hP hil; have hlp := lng_pos (hP.each i hil); have hen : en p i = bgn p i + lng (pt p i) := rfl; obtain ⟨bn, hbn⟩ : ∃ bn : Nat, bgn p i = bn := ⟨(bgn p i).toNat, by omega⟩
        refine GE_skip ?_
        refine GE_seq ?_
        refine GE_block ?_
        refine GE_seq ?_
        refine GE_plain (.st 0 (.st 1 (.ld 2 [] (.ld 3 [] .nil)))) rfl ?_
        refine GT_st rfl rfl rfl rfl (V_index rfl rfl rfl Tryz.underlying129 sz_133 (k := i) rfl hil (hy.isSome (k := i) (by rw [plcs_len]; exact hil))) ?_
        refine GT_st rfl rfl rfl rfl (V_loadN (vs := [_, _, _, _, _, _, _, _, _, _]) rfl rfl ag_133 sz_133 rfl (CellsAt.ownE hy ePlc_len (by rw [plcs_len]; exact hil) (by rw [plcs_get hil, ePlc_plc]))) ?_
        refine GT_alloc rfl rfl rfl rfl rfl zc_133 (fun _ => GR_nil) (fun b10 => ?_)
        refine GT_store (vs := [_, _, _, _, _, _, _, _, _, _]) (l' := [_, _, _, _, _, _, _, _, _, _]) rfl rfl rfl rfl rfl rfl rfl sz_133 rfl rfl (Nat.le_of_ble_eq_true rfl) rfl (GR_nil) ?_
        refine GT_nil ?_
        refine GE_seq ?_
        refine GE_plain (.st 0 (.st 1 (.st 2 .nil))) rfl ?_
        first | refine GT_st rfl rfl rfl rfl (V_field rfl rfl fo_133_2) ?_ | refine GT_st rfl rfl rfl rfl (V_fieldA rfl rfl fo_133_2) ?_
        refine GT_st rfl rfl rfl rfl (V_load rfl rfl ag_3 (CellAt.item rfl)) ?_
        refine GT_st rfl rfl rfl rfl (V_assign rfl rfl) ?_
        refine GT_nil ?_
        refine GE_block ?_
        refine GE_to (GE_loop (ι := Nat × Items) (fun x => (fin p).toNat - x.1) (fun x => [(6, ptr y.1 0), (8, .slice (some ⟨b25, 0, none⟩) (fin p).toNat (fin p).toNat), (10, ptr b10 0), (11, I x.1), (29, .slice y.2.1 p.length y.2.2.1), (30, I p.length), (31, I i)]) (fun x => (b10, blk [I (pt p i).tk, I (pt p i).fr, I (pt p i).to, I (pt p i).gap, I (pt p i).inn, I (pt p i).out, I (pt p i).lev, I i, I (bgn p i), I (en p i)] 133) :: (y.1, blk [.slice A l.length c, .slice y.2.1 p.length y.2.2.1, I (fin p)] 131) :: (y.2.2.2 ++ x.2)) (fun x => bgn p i ≤ x.1 ∧ (x.1 : Int) ≤ en p i ∧ Own 2 80 eSam (mixS p (vR l p) i x.1) (.slice (some ⟨b25, 0, none⟩) (fin p).toNat (fin p).toNat) x.2) ?_ (bn, I1) ?_) ⟨rfl, rfl, rfl, lookI rfl hbn, rfl, rfl, rfl, trivial⟩ (HS.cons rfl (HS.cons rfl (HS.chunk HS.last)))
        · rintro ⟨t, I2⟩ ⟨ht1, ht2, hO2⟩ ih2; dsimp only at ht1 ht2 hO2 ih2 ⊢
          refine GE_seq ?_
          refine GE_seq ?_
          refine GE_plain (.st 0 (.st 1 (.st 2 (.st 3 .nil)))) rfl ?_
          refine GT_st rfl rfl rfl rfl (V_move rfl rfl) ?_
          first | refine GT_st rfl rfl rfl rfl (V_field rfl rfl fo_133_3) ?_ | refine GT_st rfl rfl rfl rfl (V_fieldA rfl rfl fo_133_3) ?_
          refine GT_st rfl rfl rfl rfl (V_load rfl rfl ag_3 (CellAt.item rfl)) ?_
          refine GT_st rfl rfl rfl rfl (V_lss rfl rfl rfl) ?_
          refine GT_nil ?_
          first | refine GE_condNot rfl (fun h2 => ?_) (fun h2 => ?_) | refine GE_cond rfl (fun h2 => ?_) (fun h2 => ?_) | refine GE_condNotB rfl (fun h2 => ?_) (fun h2 => ?_) | refine GE_condB rfl (fun h2 => ?_) (fun h2 => ?_)
          · have htl : t < (fin p).toNat := (by omega); have hml2 := mixS_len p (vR l p) i t; have hlv := (hP.each i hil).lev; have hnb := mixN_bd8 hP (vR_bd hP) (Nat.le_of_lt hil) (t : Int); have hvb := vR_bd hP i ((t : Int) - bgn p i) hil (by omega) (by omega)
            refine GE_skip ?_
            refine GE_seq ?_
            refine GE_block ?_
            refine GE_slots (L' := [(6, _), (8, _), (10, _), (11, _), (29, _), (30, _), (31, _)]) ⟨rfl, rfl, rfl, rfl, rfl, rfl, rfl, trivial⟩ ?_
            refine GE_drawn (.st 0 (.st 1 (.st 2 (.st 3 (.st 4 (.st 5 (.st 6 (.st 7 (.st 8 (.st 9 (.st 10 (.st 11 (.st 12 (.st 13 (.st 14 (.ld 15 [0, 1, 2, 3, 4, 5] (.ld 16 [0, 1] (.st 17 (.ld 18 [] .nil))))))))))))))))))) [15, 16, 18] (by decide +kernel) ?_
            refine GT_st rfl rfl rfl rfl (V_move rfl rfl) ?_
            refine GT_st rfl rfl rfl rfl (V_move rfl rfl) ?_
            refine GT_st rfl rfl rfl rfl (V_move rfl rfl) ?_
            refine GT_st rfl rfl rfl rfl (V_move rfl rfl) ?_
            refine GT_st rfl rfl rfl rfl (V_index rfl rfl rfl Tryz.underlying81 sz_80 (k := t) rfl htl rfl) ?_
            refine GT_st rfl rfl rfl rfl (V_loadN (vs := [_, _]) rfl rfl ag_80 sz_80 rfl (CellsAt.ownE hO2 eSam_len (by omega) (by rw [mixS_at htl]; rfl))) ?_
            refine GT_st rfl rfl rfl rfl (V_move rfl rfl) ?_
            refine GT_st rfl rfl rfl rfl (V_loadN (vs := [_, _, _, _, _, _, _, _, _, _]) rfl rfl ag_133 sz_133 rfl (CellsAt.item rfl)) ?_
            refine GT_st rfl rfl rfl rfl (V_move rfl rfl) ?_
            first | refine GT_st rfl rfl rfl rfl (V_field rfl rfl fo_133_2) ?_ | refine GT_st rfl rfl rfl rfl (V_fieldA rfl rfl fo_133_2) ?_
            refine GT_st rfl rfl rfl rfl (V_load rfl rfl ag_3 (CellAt.item rfl)) ?_
            refine GT_st rfl rfl rfl rfl (V_sub rfl rfl rfl (wrap_i64 (by omega))) ?_
            first | refine GT_st rfl rfl rfl rfl (V_field rfl rfl fo_133_0) ?_ | refine GT_st rfl rfl rfl rfl (V_fieldA rfl rfl fo_133_0) ?_
            first | refine GT_st rfl rfl rfl rfl (V_field rfl rfl fo_92_6) ?_ | refine GT_st rfl rfl rfl rfl (V_fieldA rfl rfl fo_92_6) ?_
            refine GT_st rfl rfl rfl rfl (V_load rfl rfl ag_2 (CellAt.item rfl)) ?_
            refine GT_call0 rfl rfl rfl rfl rfl rfl rfl rfl rn_51 (fun w hw => C_sound (i := i) (k := (t : Int) - bgn p i) (lev := (pt p i).lev) hil hP (by omega) (by omega) hlv.1 (by omega) (h.sh hw) (BlkAt.of hw)) (GR_cons rfl rfl rfl rfl (V_move rfl rfl) (GR_cons rfl rfl rfl rfl (V_move rfl rfl) (GR_cons rfl rfl rfl rfl (V_move rfl rfl) (GR_cons rfl rfl rfl rfl (V_move rfl rfl) (GR_cons rfl rfl rfl rfl (V_index rfl rfl rfl Tryz.underlying81 sz_80 (k := t) rfl htl rfl) (GR_cons rfl rfl rfl rfl (V_loadN (vs := [_, _]) rfl rfl ag_80 sz_80 rfl (CellsAt.ownE hO2 eSam_len (by omega) (by rw [mixS_at htl]; rfl))) (GR_nil))))))) ?_
            refine GT_call0 rfl rfl rfl rfl rfl rfl rfl rfl rn_50 (fun w hw => C_sum (a := mixN p (vR l p) i t) (b := snd l (pt p i) ((t : Int) - bgn p i) (pt p i).lev) hnb (Sam.bd.mono hvb (by decide))) (GR_cons rfl rfl rfl rfl (V_move rfl rfl) (GR_cons rfl rfl rfl rfl (V_move rfl rfl) (GR_nil))) ?_
            refine GT_st rfl rfl rfl rfl (V_index rfl rfl rfl Tryz.underlying81 sz_80 (k := t) rfl htl rfl) ?_
            refine GT_storeOwn (enc := eSam) (q := t) (xx := sad (mixN p (vR l p) i t) (vR l p i ((t : Int) - bgn p i))) rfl rfl rfl rfl rfl rfl rfl sz_80 hO2 eSam_len eSam_one (by omega) (by decide) (fun _ _ => GR_nil) (fun I3 hO3 => ?_)
            refine GT_nil ?_
            refine GE_inBlock ?_
            refine GE_slots (L' := [(6, _), (8, _), (10, _), (11, _), (29, _), (30, _), (31, _)]) ⟨rfl, rfl, rfl, rfl, rfl, rfl, rfl, trivial⟩ ?_
            rw [mixS_set htl ht1 h2] at hO3
            refine GE_plain (.st 0 (.st 1 (.ld 2 [] .nil))) rfl ?_
            refine GT_st rfl rfl rfl rfl (V_move rfl rfl) ?_
            refine GT_st rfl rfl rfl rfl (V_add rfl rfl rfl (wrap_i64 (by omega))) ?_
            refine GT_ldv rfl rfl rfl rfl rfl (V_assign rfl rfl) (GR_nil) ?_
            refine GT_nil ?_
            exact GE_to (ih2 (t + 1, I3) ⟨by dsimp only; omega, by dsimp only; omega, hO3⟩ (by dsimp only; omega)) ⟨rfl, rfl, rfl, rfl, rfl, rfl, rfl, trivial⟩ (HS.cons rfl (HS.cons rfl (HS.chunk HS.last)))
          · have het : (t : Int) = en p i := (by omega)
            refine GE_exit rfl ?_
            refine GE_inBlock ?_
            refine GE_slots (L' := [(6, _), (8, _), (29, _), (30, _), (31, _)]) ⟨rfl, rfl, rfl, rfl, rfl, trivial⟩ ?_
            refine GE_plain (.st 0 (.ld 1 [] .nil)) rfl ?_
            refine GT_st rfl rfl rfl rfl (V_add rfl rfl rfl (wrap_i64 (by omega))) ?_
            refine GT_ldv rfl rfl rfl rfl rfl (V_move rfl rfl) (GR_nil) ?_
            refine GT_nil ?_
            exact GE_to (ih (i + 1, I2) ⟨by dsimp only; omega, by rw [← mixS_end, ← het]; exact hO2⟩ (by dsimp only; omega)) ⟨rfl, rfl, rfl, rfl, rfl, trivial⟩ (HS.cons rfl (HS.chunk HS.last))
        · exact ⟨by dsimp only; omega, by dsimp only; omega, by dsimp only; rw [← hbn, mixS_begin]; exact hO⟩
      · obtain rfl : i = p.length := (by omega); rw [mixP_all] at hO
        refine GE_exit rfl ?_
        refine GE_seq ?_
        refine GE_seq ?_
        refine GE_slots (L' := [(8, _)]) ⟨rfl, trivial⟩ ?_
        refine GE_plain (.st 0 (.ld 1 [] (.st 2 .nil))) rfl ?_
        refine GT_st rfl rfl rfl rfl (V_move rfl rfl) ?_
        refine GT_call0 rfl rfl rfl rfl rfl rfl rfl rfl rn_41 (fun w hw => C_CheckSamplesN (s := rend l p) (mix_len p (vR l p)) (hO.rdH eSam_len hw)) (GR_nil) ?_
        refine GT_st rfl rfl rfl rfl (V_neq rfl rfl rfl) ?_
        refine GT_nil ?_
        first | refine GE_condNot rfl (fun h3 => ?_) (fun h3 => ?_) | refine GE_cond rfl (fun h3 => ?_) (fun h3 => ?_) | refine GE_condNotB rfl (fun h3 => ?_) (fun h3 => ?_) | refine GE_condB rfl (fun h3 => ?_) (fun h3 => ?_)
        · skip
          refine GE_seq ?_
          refine GE_slots (L' := []) trivial ?_
          refine GE_plain (.st 0 (.st 1 .nil)) rfl ?_
          refine GT_st rfl rfl rfl rfl (V_assign rfl rfl) ?_
          refine GT_st rfl rfl rfl rfl (V_assign rfl rfl) ?_
          refine GT_nil ?_
          refine GE_ret Tryz.func27 ⟨_, _, rfl, rfl, rfl⟩ (fun w hw => ?_)
          have e : rErr l p = 4 := (by rw [rErr, if_pos hg, if_neg h3]); have e2 : rendL l p = [] := if_neg (by omega); exact ⟨(none, 0, []), by dsimp only; rw [e2]; exact Own.nil, by dsimp only; rw [e, e2]; rfl, hw.nil⟩
        · skip
          refine GE_skip ?_
          refine GE_seq ?_
          refine GE_plain (.st 0 (.st 1 (.st 2 .nil))) rfl ?_
          refine GT_st rfl rfl rfl rfl (V_move rfl rfl) ?_
          refine GT_st rfl rfl rfl rfl (V_assign rfl rfl) ?_
          refine GT_st rfl rfl rfl rfl (V_assign rfl rfl) ?_
          refine GT_nil ?_
          refine GE_ret Tryz.func27 ⟨_, _, rfl, rfl, rfl⟩ (fun w hw => ?_)
          have e : rErr l p = 0 := (by rw [rErr, if_pos hg, if_pos h3]); have e2 : rendL l p = rend l p := if_pos e; exact ⟨(some ⟨b25, 0, none⟩, (fin p).toNat, I1), by dsimp only; rw [e2, hml]; exact hO, by dsimp only; rw [e, e2, hml], hw.chunk⟩
    · exact ⟨Nat.zero_le _, by rw [mixP_zero]; exact Own.made (x := (⟨0, 0⟩ : Sam)) rfl (by unfold maxLen; omega)⟩
  · have e : rErr l p = gErr l p := if_neg hg
    have e2 : rendL l p = [] := if_neg (by omega)
    refine Ret_of (vs := [_, _]) hm none' Tryz.func27 rfl Tryz.ntmps27 rfl ?_
    dsimp only [slotsOf]
    refine GE_seq ?_
    refine GE_plain (.st 0 (.st 1 .nil)) rfl ?_
    refine GT_st rfl rfl rfl rfl (V_assign rfl rfl) ?_
    refine GT_st rfl rfl rfl rfl (V_assign rfl rfl) ?_
    refine GT_nil ?_
    refine GE_seq ?_
    refine GE_plain (.st 0 (.st 1 (.ld 2 [] (.st 3 (.st 4 (.st 5 (.st 6 (.st 7 .nil)))))))) rfl ?_
    refine GT_st rfl rfl rfl rfl (V_move rfl rfl) ?_
    refine GT_st rfl rfl rfl rfl (V_move rfl rfl) ?_
    refine GT_call0 rfl rfl rfl rfl rfl rfl rfl rfl rn_49 (fun w hw => C_new_bad (h.sh hw) (hp.sh hw) hg) (GR_nil) ?_
    refine GT_st rfl rfl rfl rfl (V_move rfl rfl) ?_
    refine GT_st rfl rfl rfl rfl (V_extract rfl rfl rfl) ?_
    refine GT_st rfl rfl rfl rfl (V_extract rfl rfl rfl) ?_
    refine GT_st rfl rfl rfl rfl (V_assign rfl rfl) ?_
    refine GT_st rfl rfl rfl rfl (V_assign rfl rfl) ?_
    refine GT_nil ?_
    refine GE_seq ?_
    refine GE_seq ?_
    refine GE_slots (L' := [(6, _), (7, _)]) ⟨rfl, rfl, trivial⟩ ?_
    refine GE_plain (.st 0 (.st 1 .nil)) rfl ?_
    refine GT_st rfl rfl rfl rfl (V_move rfl rfl) ?_
    refine GT_st rfl rfl rfl rfl (V_isT (V_neq rfl rfl rfl) hg) ?_
    refine GT_nil ?_
    refine GE_cond_t rfl ?_
    refine GE_seq ?_
    refine GE_plain (.st 0 (.st 1 (.st 2 .nil))) rfl ?_
    refine GT_st rfl rfl rfl rfl (V_move rfl rfl) ?_
    refine GT_st rfl rfl rfl rfl (V_assign rfl rfl) ?_
    refine GT_st rfl rfl rfl rfl (V_assign rfl rfl) ?_
    refine GT_nil ?_
    refine GE_ret Tryz.func27 ⟨_, _, rfl, rfl, rfl⟩ (fun w hw => ?_)
    exact ⟨(none, 0, []), by dsimp only; rw [e2]; exact Own.nil, by dsimp only; rw [e, e2]; rfl, hw.nil⟩
end
end Go.Proofs.YtogljfjbilndnaaGreatDoor.Take
/- The program's tables, asked once: which structs and arrays are of numbers alone. -/
namespace Go.Proofs.YtogljfjbilndnaaGreatDoor
open Go.Sx Go.Proofs
theorem is_25 : isStruct Tryz.prog 25 3 = true := by kernel_rfl
theorem is_26 : isStruct Tryz.prog 26 3 = true := by kernel_rfl
theorem is_27 : isStruct Tryz.prog 27 6 = true := by kernel_rfl
theorem is_28 : isStruct Tryz.prog 28 6 = true := by kernel_rfl
theorem is_49 : isStruct Tryz.prog 49 3 = true := by kernel_rfl
theorem is_50 : isStruct Tryz.prog 50 3 = true := by kernel_rfl
theorem is_52 : isStruct Tryz.prog 52 2 = true := by kernel_rfl
theorem is_53 : isStruct Tryz.prog 53 2 = true := by kernel_rfl
theorem is_69 : isStruct Tryz.prog 69 2 = true := by kernel_rfl
theorem is_70 : isStruct Tryz.prog 70 2 = true := by kernel_rfl
theorem is_75 : isStruct Tryz.prog 75 7 = true := by kernel_rfl
theorem is_76 : isStruct Tryz.prog 76 7 = true := by kernel_rfl
theorem is_79 : isStruct Tryz.prog 79 2 = true := by kernel_rfl
theorem is_80 : isStruct Tryz.prog 80 2 = true := by kernel_rfl
theorem is_91 : isStruct Tryz.prog 91 7 = true := by kernel_rfl
theorem is_92 : isStruct Tryz.prog 92 7 = true := by kernel_rfl
theorem eg_141 : Tryz.prog.eqGuardType Tryz.prog.depth 141 = false := by kernel_rfl
theorem is_180 : isStruct Tryz.prog 180 2 = true := by kernel_rfl
theorem is_181 : isStruct Tryz.prog 181 2 = true := by kernel_rfl
theorem is_243 : isStruct Tryz.prog 243 2 = true := by kernel_rfl
theorem is_244 : isStruct Tryz.prog 244 2 = true := by kernel_rfl
end Go.Proofs.YtogljfjbilndnaaGreatDoor
/- The works of chapter 03: the example of every layer. -/
namespace Go.Proofs.YtogljfjbilndnaaGreatDoor.Side
open Go.Sx Go.Proofs Go.RowKit

def wD : List Take.Sam := [⟨10, -10⟩, ⟨5, 0⟩]
def wL (a : Nat) : List Take.Tk := [⟨⟨#[97]⟩, some ⟨a, 0, none⟩, 2, wD⟩]
def wP : List Take.Prt := [⟨0, 0, 2, 0, 0, 0, 500⟩]
def wR : List Take.Sam := [⟨5, -5⟩, ⟨2, 0⟩]
theorem w_err (a : Nat) : Take.rErr (wL a) wP = 0 := by kernel_rfl
theorem w_rend (a : Nat) : Take.rendL (wL a) wP = wR := by kernel_rfl
section
variable {w : World} {A B : Option Addr} {c c2 : Nat}
theorem w_tks {w0 : World} {M : Nat → Prop} {H : Items} {y1 y3 : Nat} (m : SH w0 M H w) [HFind y1 H (blk ((wL y3).flatMap Take.eTk) 89)] [HFind y3 H (blk (wD.flatMap Take.eSam) 80)] : Take.Tks w (some ⟨y1, 0, none⟩) (wL y3) := by
  refine ⟨RdL.own' m Take.eTk_len, fun t ht => ?_⟩
  simp only [wL, List.mem_cons, List.not_mem_nil, or_false] at ht
  subst ht
  refine ⟨RdL.own' m Take.eSam_len, show 1 ≤ maxLen by decide, show 2 ≤ 2 by decide, fun s hs => ?_⟩
  simp only [wD, List.mem_cons, List.not_mem_nil, or_false] at hs
  rcases hs with rfl | rfl <;> exact ⟨by unfold Take.I64; decide, by unfold Take.I64; decide⟩
theorem C_RenderW {a : Nat} (h : Take.Tks w A (wL a)) (hp : RdL w 7 Take.ePrt B wP) : Con Tryz.prog 27 [.slice A 1 c, .slice B 1 c2] w (fun y : Option Addr × Nat × Items => Own 2 80 Take.eSam wR (.slice y.1 2 y.2.1) y.2.2)
    (fun y => .tuple #[.slice y.1 2 y.2.1, I 0]) (fun y => y.2.2) := by
  have h1 := Take.C_Render (c := c) (c2 := c2) h hp
  rw [w_err, w_rend] at h1
  exact h1
set_option maxRecDepth 20000 in
theorem C_works03 : Con0 Tryz.prog 12 [] w (.bool true) := by
  refine Ret_of (vs := []) hm none' Tryz.func12 rfl Tryz.ntmps12 rfl ?_
  dsimp only [slotsOf]
  refine GE_seq ?_
  refine GE_plain (.st 0 .nil) rfl ?_
  refine GT_st rfl rfl rfl rfl (V_assign rfl rfl) ?_
  refine GT_nil ?_
  refine GE_seq ?_
  refine GE_plain (.st 0 (.ld 1 [] (.ld 2 [] .nil))) rfl ?_
  refine GT_st rfl rfl rfl rfl (V_build (vs := [_, _, _, _, _, _, _]) rfl rfl zc_76 pl_76 sa_76 rfl) ?_
  refine GT_alloc rfl rfl rfl rfl rfl zc_76 (fun _ => GR_nil) (fun b1 => ?_)
  refine GT_store (vs := [_, _, _, _, _, _, _]) (l' := [_, _, _, _, _, _, _]) rfl rfl rfl rfl rfl rfl rfl sz_76 rfl rfl (Nat.le_of_ble_eq_true rfl) rfl (GR_nil) ?_
  refine GT_nil ?_
  refine GE_seq ?_
  refine GE_plain (.st 0 (.st 1 (.st 2 (.st 3 (.ld 4 [] (.ld 5 [] (.st 6 (.st 7 (.st 8 (.st 9 (.st 10 .nil))))))))))) rfl ?_
  refine GT_st rfl rfl rfl rfl (V_loadN (vs := [_, _, _, _, _, _, _]) rfl rfl ag_76 sz_76 rfl (CellsAt.item rfl)) ?_
  refine GT_st rfl rfl rfl rfl (V_build (vs := [_, _]) rfl rfl zc_80 pl_80 sa_80 rfl) ?_
  refine GT_st rfl rfl rfl rfl (V_build (vs := [_, _]) rfl rfl zc_80 pl_80 sa_80 rfl) ?_
  refine GT_st rfl rfl rfl rfl (V_build (vs := [_, _]) rfl rfl zc_80 pl_80 sa_80 rfl) ?_
  refine GT_buildSlice (z := [_, _, _, _, _, _]) rfl rfl rfl rfl rfl Tryz.underlying81 zc_80 sz_80 (by decide) rfl rfl (fun _ => GR_nil) (fun b16 => ?_)
  refine GT_call rfl rfl rfl rfl rfl rfl rfl rfl rn_24 (fun w hw => C_Cut (RdL.own' (l := smS) hw Take.eSam_len)) (fun _ _ => GR_nil) (fun y hy => ?_)
  refine GT_st rfl rfl rfl rfl (V_move rfl rfl) ?_
  refine GT_st rfl rfl rfl rfl (V_extract rfl rfl rfl) ?_
  refine GT_st rfl rfl rfl rfl (V_extract rfl rfl rfl) ?_
  refine GT_st rfl rfl rfl rfl (V_assign rfl rfl) ?_
  refine GT_st rfl rfl rfl rfl (V_assign rfl rfl) ?_
  refine GT_nil ?_
  refine GE_seq ?_
  refine GE_slots (L' := [(1, _), (2, _), (3, _)]) ⟨rfl, rfl, rfl, trivial⟩ ?_
  refine GE_plain (.st 0 (.st 1 (.ld 2 [] (.st 3 (.st 4 (.st 5 (.st 6 (.st 7 .nil)))))))) rfl ?_
  refine GT_st rfl rfl rfl rfl (V_loadN (vs := [_, _, _, _, _, _, _]) rfl rfl ag_76 sz_76 rfl (CellsAt.item rfl)) ?_
  refine GT_st rfl rfl rfl rfl (V_move rfl rfl) ?_
  refine GT_call0 rfl rfl rfl rfl rfl rfl rfl rfl rn_25 (fun w hw => C_Least (hy.rdH eP2_len hw)) (GR_nil) ?_
  refine GT_st rfl rfl rfl rfl (V_move rfl rfl) ?_
  refine GT_st rfl rfl rfl rfl (V_extract rfl rfl rfl) ?_
  refine GT_st rfl rfl rfl rfl (V_extract rfl rfl rfl) ?_
  refine GT_st rfl rfl rfl rfl (V_assign rfl rfl) ?_
  refine GT_st rfl rfl rfl rfl (V_assign rfl rfl) ?_
  refine GT_nil ?_
  refine GE_seq ?_
  refine GE_slots (L' := [(2, _), (3, _), (4, _), (5, _)]) ⟨rfl, rfl, rfl, rfl, trivial⟩ ?_
  refine GE_plain (.ld 0 [] (.ld 1 [] (.st 2 (.ld 3 [] (.ld 4 [] (.st 5 (.st 6 (.st 7 (.st 8 (.st 9 .nil)))))))))) rfl ?_
  refine GT_buildSlice (z := [_]) rfl rfl rfl rfl rfl Tryz.underlying38 zc_2 sz_2 (by decide) rfl rfl (fun _ => GR_nil) (fun b27 => ?_)
  refine GT_buildSlice (z := [_]) rfl rfl rfl rfl rfl Tryz.underlying38 zc_2 sz_2 (by decide) rfl rfl (fun _ => GR_nil) (fun b28 => ?_)
  refine GT_st rfl rfl rfl rfl (V_build (vs := [_, _, _]) rfl rfl zc_85 pl_85 sa_85 rfl) ?_
  refine GT_buildSlice (z := [_, _, _, _]) rfl rfl rfl rfl rfl Tryz.underlying38 zc_2 sz_2 (by decide) rfl rfl (fun _ => GR_nil) (fun b30 => ?_)
  refine GT_call rfl rfl rfl rfl rfl rfl rfl rfl rn_26 (fun w hw => C_Apply (RdL.own' (l := [64]) hw eN_len) (RdL.own' (l := [128]) hw eN_len) (RdL.own' (l := xsE) hw eN_len) rfl) (fun _ _ => GR_nil) (fun z hz => ?_)
  refine GT_st rfl rfl rfl rfl (V_move rfl rfl) ?_
  refine GT_st rfl rfl rfl rfl (V_extract rfl rfl rfl) ?_
  refine GT_st rfl rfl rfl rfl (V_extract rfl rfl rfl) ?_
  refine GT_st rfl rfl rfl rfl (V_assign rfl rfl) ?_
  refine GT_st rfl rfl rfl rfl (V_assign rfl rfl) ?_
  refine GT_nil ?_
  refine GE_seq ?_
  refine GE_slots (L' := [(2, _), (3, _), (4, _), (5, _), (6, _), (7, _)]) ⟨rfl, rfl, rfl, rfl, rfl, rfl, trivial⟩ ?_
  refine GE_plain (.st 0 (.st 1 (.ld 2 [] (.st 3 (.ld 4 [] (.st 5 (.ld 6 [] (.ld 7 [] (.st 8 (.st 9 (.st 10 (.st 11 (.st 12 .nil))))))))))))) rfl ?_
  refine GT_st rfl rfl rfl rfl (V_build (vs := [_, _]) rfl rfl zc_80 pl_80 sa_80 rfl) ?_
  refine GT_st rfl rfl rfl rfl (V_build (vs := [_, _]) rfl rfl zc_80 pl_80 sa_80 rfl) ?_
  refine GT_buildSlice (z := [_, _, _, _]) rfl rfl rfl rfl rfl Tryz.underlying81 zc_80 sz_80 (by decide) rfl rfl (fun _ => GR_nil) (fun b37 => ?_)
  refine GT_st rfl rfl rfl rfl (V_build (vs := [_, _]) rfl rfl zc_89 pl_89 sa_89 rfl) ?_
  refine GT_buildSlice (z := [_, _]) rfl rfl rfl rfl rfl Tryz.underlying90 zc_89 sz_89 (by decide) rfl rfl (fun _ => GR_nil) (fun b39 => ?_)
  refine GT_st rfl rfl rfl rfl (V_build (vs := [_, _, _, _, _, _, _]) rfl rfl zc_92 pl_92 sa_92 rfl) ?_
  refine GT_buildSlice (z := [_, _, _, _, _, _, _]) rfl rfl rfl rfl rfl Tryz.underlying93 zc_92 sz_92 (by decide) rfl rfl (fun _ => GR_nil) (fun b41 => ?_)
  refine GT_call rfl rfl rfl rfl rfl rfl rfl rfl rn_27 (fun w hw => C_RenderW (a := b37) (w_tks hw) (RdL.own' hw Take.ePrt_len)) (fun _ _ => GR_nil) (fun v hv => ?_)
  refine GT_st rfl rfl rfl rfl (V_move rfl rfl) ?_
  refine GT_st rfl rfl rfl rfl (V_extract rfl rfl rfl) ?_
  refine GT_st rfl rfl rfl rfl (V_extract rfl rfl rfl) ?_
  refine GT_st rfl rfl rfl rfl (V_assign rfl rfl) ?_
  refine GT_st rfl rfl rfl rfl (V_assign rfl rfl) ?_
  refine GT_nil ?_
  refine GE_seq ?_
  refine GE_slots (L' := [(2, _), (3, _), (4, _), (5, _), (6, _), (7, _), (8, _), (9, _)]) ⟨rfl, rfl, rfl, rfl, rfl, rfl, rfl, rfl, trivial⟩ ?_
  refine GE_plain (.st 0 (.st 1 (.st 2 (.st 3 (.st 4 (.st 5 (.st 6 (.st 7 (.st 8 (.st 9 (.st 10 (.st 11 (.st 12 (.st 13 (.st 14 (.st 15 (.st 16 (.st 17 (.st 18 (.st 19 (.st 20 (.st 21 (.st 22 (.st 23 (.st 24 (.st 25 (.st 26 (.st 27 (.st 28 (.st 29 (.st 30 (.st 31 (.st 32 (.st 33 (.st 34 (.st 35 (.st 36 (.st 37 (.st 38 (.st 39 (.st 40 (.st 41 (.st 42 (.st 43 (.st 44 (.st 45 (.st 46 (.st 47 (.st 48 (.st 49 (.st 50 (.st 51 (.st 52 (.st 53 .nil)))))))))))))))))))))))))))))))))))))))))))))))))))))) rfl ?_
  refine GT_st rfl rfl rfl rfl (V_move rfl rfl) ?_
  refine GT_st rfl rfl rfl rfl (V_isT (V_eql rfl rfl rfl) rfl) ?_
  refine GT_st rfl rfl rfl rfl (V_move rfl rfl) ?_
  refine GT_st_g rfl rfl rfl rfl rfl rfl rfl (V_move rfl rfl) ?_
  refine GT_st_g rfl rfl rfl rfl rfl rfl rfl (V_isT (V_eql rfl rfl rfl) rfl) ?_
  refine GT_st rfl rfl rfl rfl (V_pick_t rfl rfl rfl) ?_
  refine GT_st rfl rfl rfl rfl (V_move rfl rfl) ?_
  refine GT_st_g rfl rfl rfl rfl rfl rfl rfl (V_move rfl rfl) ?_
  refine GT_st_g rfl rfl rfl rfl rfl rfl rfl (V_isT (V_eql rfl rfl rfl) rfl) ?_
  refine GT_st rfl rfl rfl rfl (V_pick_t rfl rfl rfl) ?_
  refine GT_st rfl rfl rfl rfl (V_move rfl rfl) ?_
  refine GT_st_g rfl rfl rfl rfl rfl rfl rfl (V_move rfl rfl) ?_
  refine GT_st_g rfl rfl rfl rfl rfl rfl rfl (V_isT (V_eql rfl rfl rfl) rfl) ?_
  refine GT_st rfl rfl rfl rfl (V_pick_t rfl rfl rfl) ?_
  refine GT_st rfl rfl rfl rfl (V_move rfl rfl) ?_
  refine GT_st_g rfl rfl rfl rfl rfl rfl rfl (V_move rfl rfl) ?_
  refine GT_st_g rfl rfl rfl rfl rfl rfl rfl (V_len rfl Tryz.underlying30 rfl) ?_
  refine GT_st_g rfl rfl rfl rfl rfl rfl rfl (V_isT (V_eql rfl rfl rfl) rfl) ?_
  refine GT_st rfl rfl rfl rfl (V_pick_t rfl rfl rfl) ?_
  refine GT_st rfl rfl rfl rfl (V_move rfl rfl) ?_
  refine GT_st_g rfl rfl rfl rfl rfl rfl rfl (V_move rfl rfl) ?_
  refine GT_st_g rfl rfl rfl rfl rfl rfl rfl (V_index (k := 1) rfl rfl rfl Tryz.underlying30 sz_53 rfl (by decide) (hy.isSome (k := 1) (by decide))) ?_
  refine GT_st_g rfl rfl rfl rfl rfl rfl rfl (V_loadN (vs := [_, _]) rfl rfl ag_53 sz_53 rfl (CellsAt.ownE hy eP2_len (k := 1) (by decide) rfl)) ?_
  refine GT_st_g rfl rfl rfl rfl rfl rfl rfl (V_build (vs := [_, _]) rfl rfl zc_53 pl_53 sa_53 rfl) ?_
  refine GT_st_g rfl rfl rfl rfl rfl rfl rfl (V_isT (V_eqlInts (zs := [-200, 600]) (zs' := [-200, 600]) rfl rfl rfl is_53 rfl rfl) rfl) ?_
  refine GT_st rfl rfl rfl rfl (V_pick_t rfl rfl rfl) ?_
  refine GT_st rfl rfl rfl rfl (V_move rfl rfl) ?_
  refine GT_st_g rfl rfl rfl rfl rfl rfl rfl (V_move rfl rfl) ?_
  refine GT_st_g rfl rfl rfl rfl rfl rfl rfl (V_isT (V_eql rfl rfl rfl) rfl) ?_
  refine GT_st rfl rfl rfl rfl (V_pick_t rfl rfl rfl) ?_
  refine GT_st rfl rfl rfl rfl (V_move rfl rfl) ?_
  refine GT_st_g rfl rfl rfl rfl rfl rfl rfl (V_move rfl rfl) ?_
  refine GT_st_g rfl rfl rfl rfl rfl rfl rfl (V_len rfl Tryz.underlying38 rfl) ?_
  refine GT_st_g rfl rfl rfl rfl rfl rfl rfl (V_isT (V_eql rfl rfl rfl) rfl) ?_
  refine GT_st rfl rfl rfl rfl (V_pick_t rfl rfl rfl) ?_
  refine GT_st rfl rfl rfl rfl (V_move rfl rfl) ?_
  refine GT_st_g rfl rfl rfl rfl rfl rfl rfl (V_move rfl rfl) ?_
  refine GT_st_g rfl rfl rfl rfl rfl rfl rfl (V_index (k := 1) rfl rfl rfl Tryz.underlying38 sz_2 rfl (by decide) (hz.isSome (k := 1) (by decide))) ?_
  refine GT_st_g rfl rfl rfl rfl rfl rfl rfl (V_load rfl rfl ag_2 (CellAt.own0 hz eN_len (k := 1) (by decide) rfl)) ?_
  refine GT_st_g rfl rfl rfl rfl rfl rfl rfl (V_isT (V_eql rfl rfl rfl) rfl) ?_
  refine GT_st rfl rfl rfl rfl (V_pick_t rfl rfl rfl) ?_
  refine GT_st rfl rfl rfl rfl (V_move rfl rfl) ?_
  refine GT_st_g rfl rfl rfl rfl rfl rfl rfl (V_move rfl rfl) ?_
  refine GT_st_g rfl rfl rfl rfl rfl rfl rfl (V_len rfl Tryz.underlying81 rfl) ?_
  refine GT_st_g rfl rfl rfl rfl rfl rfl rfl (V_isT (V_eql rfl rfl rfl) rfl) ?_
  refine GT_st rfl rfl rfl rfl (V_pick_t rfl rfl rfl) ?_
  refine GT_st rfl rfl rfl rfl (V_move rfl rfl) ?_
  refine GT_st_g rfl rfl rfl rfl rfl rfl rfl (V_move rfl rfl) ?_
  refine GT_st_g rfl rfl rfl rfl rfl rfl rfl (V_index (k := 0) rfl rfl rfl Tryz.underlying81 sz_80 rfl (by decide) (hv.isSome (k := 0) (by decide))) ?_
  refine GT_st_g rfl rfl rfl rfl rfl rfl rfl (V_loadN (vs := [_, _]) rfl rfl ag_80 sz_80 rfl (CellsAt.ownE hv Take.eSam_len (k := 0) (by decide) rfl)) ?_
  refine GT_st_g rfl rfl rfl rfl rfl rfl rfl (V_build (vs := [_, _]) rfl rfl zc_80 pl_80 sa_80 rfl) ?_
  refine GT_st_g rfl rfl rfl rfl rfl rfl rfl (V_isT (V_eqlInts (zs := [5, -5]) (zs' := [5, -5]) rfl rfl rfl is_80 rfl rfl) rfl) ?_
  refine GT_st rfl rfl rfl rfl (V_pick_t rfl rfl rfl) ?_
  refine GT_st rfl rfl rfl rfl (V_assign rfl rfl) ?_
  refine GT_nil ?_
  refine GE_ret Tryz.func12 rfl (fun w hw => ⟨?_, hw.nil⟩)
  rfl
end
end Go.Proofs.YtogljfjbilndnaaGreatDoor.Side
/- What the lathe's functions come to, in plain Lean: what both texts share. -/
namespace Go.Proofs.YtogljfjbilndnaaGreatDoor.Lathe
open Go.Sx

/-- an int64 -/
def I64 (x : Int) : Prop := -9223372036854775808 ≤ x ∧ x ≤ 9223372036854775807
theorem I64.of {x : Int} (h : (Lit.int .i64 x).wf = true) : I64 x := by
  simp [Lit.wf, IntKind.min, IntKind.max, IntKind.signed, IntKind.bits] at h
  unfold I64; omega
theorem u8_of {x : Int} (h : (Lit.int .u8 x).wf = true) : 0 ≤ x ∧ x ≤ 255 := by
  simp [Lit.wf, IntKind.min, IntKind.max, IntKind.signed, IntKind.bits] at h
  omega
theorem u16_of {x : Int} (h : (Lit.int .u16 x).wf = true) : 0 ≤ x ∧ x ≤ 65535 := by
  simp [Lit.wf, IntKind.min, IntKind.max, IntKind.signed, IntKind.bits] at h
  omega

def betw (x lo hi : Int) : Bool := decide (lo ≤ x) && decide (x ≤ hi)
theorem betw_iff {x lo hi : Int} : betw x lo hi = true ↔ lo ≤ x ∧ x ≤ hi := by simp [betw]

structure Blank where
  per : Int
  rim : Int
  core : Int
  land : Int
  slow : Int
  fast : Int
def Blank.cells (b : Blank) : List Value := [I b.per, I b.rim, I b.core, I b.land, I b.slow, I b.fast]
abbrev Blank.val (b : Blank) : Value := .agg b.cells.toArray
def Blank.ok (b : Blank) : Bool := betw b.per 1 65536 && betw b.rim 0 4194304 && betw b.core 0 b.rim && betw b.land 0 65536 && betw b.fast 0 65536 && betw b.slow 0 b.fast
def Blank.check (b : Blank) : Int := if b.ok then 0 else 2
theorem Blank.ok_iff {b : Blank} : b.ok = true ↔ (1 ≤ b.per ∧ b.per ≤ 65536) ∧ (0 ≤ b.rim ∧ b.rim ≤ 4194304) ∧ (0 ≤ b.core ∧ b.core ≤ b.rim) ∧ (0 ≤ b.land ∧ b.land ≤ 65536) ∧ (0 ≤ b.fast ∧ b.fast ≤ 65536) ∧ (0 ≤ b.slow ∧ b.slow ≤ b.fast) := by
  simp [Blank.ok, betw_iff, and_assoc]
theorem Blank.check_ne {b : Blank} : ¬ b.check = 0 ↔ b.ok = false := by
  unfold Blank.check; cases b.ok <;> simp
theorem Blank.check_of {b : Blank} (h : b.ok = false) : b.check = 2 := by simp [Blank.check, h]

structure Pt where
  inn : Int
  out : Int
instance : Inhabited Pt := ⟨⟨0, 0⟩⟩
def ePt (p : Pt) : List Value := [I p.inn, I p.out]
theorem ePt_len (p : Pt) : (ePt p).length = 2 := rfl
def PtWf (p : Pt) : Prop := I64 p.inn ∧ I64 p.out
/-- by how much a point is narrower -/
structure Nar where
  a : Int
  b : Int
instance : Inhabited Nar := ⟨⟨0, 0⟩⟩
def eNar (p : Nar) : List Value := [.int .u8 p.a, .int .u8 p.b]
theorem eNar_len (p : Nar) : (eNar p).length = 2 := rfl
def NarWf (p : Nar) : Prop := (0 ≤ p.a ∧ p.a ≤ 255) ∧ 0 ≤ p.b ∧ p.b ≤ 255
theorem ePt_one : ∀ x, ∀ u ∈ ePt x, u.oneCell' = true := by intro x u hu; simp only [ePt, List.mem_cons, List.not_mem_nil, or_false] at hu; rcases hu with rfl | rfl <;> rfl
def ptOk (p : Pt) : Bool := betw p.inn (-4194304) 4194304 && betw p.out (-4194304) 4194304
def ptsOk (l : List Pt) : Bool := decide (l.length ≤ 4096) && l.all ptOk
def ptsCheck (l : List Pt) : Int := if 4096 < l.length then 6 else if l.all ptOk then 0 else 2

def eI (x : Int) : List Value := [I x]
theorem eI_len (x : Int) : (eI x).length = 1 := rfl

theorem eI_one : ∀ x, ∀ u ∈ eI x, u.oneCell' = true := by intro x u hu; simp only [eI, List.mem_singleton] at hu; subst hu; rfl

/-! the reference's greatest radii -/
def start (b : Blank) (l : List Pt) : List Int := l.map fun p => b.rim - p.out
theorem start_length (b : Blank) (l : List Pt) : (start b l).length = l.length := by simp [start]
theorem start_snoc {b : Blank} {l : List Pt} {k : Nat} (h : k < l.length) : start b (l.take k) ++ [b.rim - (l.getD k default).out] = start b (l.take (k + 1)) := by
  rw [List.take_succ_eq_append_getElem h, start, start, List.map_append]; simp [List.getD, h]
def most1 (b : Blank) (r : List Int) (i : Nat) : Int := if 0 < i then min (r.getD i default) (r.getD (i - 1) default - b.slow) else r.getD i default
def most2 (b : Blank) (l : List Pt) (r : List Int) (i : Nat) : Int :=
  if b.per ≤ i then min (most1 b r i) (r.getD (i - b.per.toNat) default + (l.getD (i - b.per.toNat) default).inn - (l.getD i default).out - b.land) else most1 b r i
def most (b : Blank) (l : List Pt) (r : List Int) (i : Nat) : Int := if i + 1 < l.length then min (most2 b l r i) (r.getD (i + 1) default + b.fast) else most2 b l r i
/-- one sweep, up to sample i -/
def sweepTo (b : Blank) (l : List Pt) : Nat → List Int → List Int × Bool
  | 0, r => (r, false)
  | i + 1, r => let s := sweepTo b l i r; (s.1.set i (most b l s.1 i), s.2 || decide (most b l s.1 i < s.1.getD i default))
def grounds (b : Blank) (l : List Pt) : Nat → List Int → Option (List Int)
  | 0, _ => none
  | f + 1, r => if (sweepTo b l l.length r).2 then grounds b l f (sweepTo b l l.length r).1 else some (sweepTo b l l.length r).1
def greatest (b : Blank) (l : List Pt) : Option (List Int) := grounds b l (l.length + 2) (start b l)
theorem most_le (b : Blank) (l : List Pt) (r : List Int) (i : Nat) : most b l r i ≤ r.getD i default := by
  unfold most most2 most1; split <;> split <;> split <;> omega

def Bd (r : List Int) (n : Nat) (lo : Int) : Prop := ∀ q, q < n → lo ≤ r.getD q default ∧ r.getD q default ≤ 16777216
theorem most1_bd {b : Blank} {r : List Int} {i n : Nat} {lo : Int} (hb : b.ok = true) (h : Bd r n lo) (hi : i < n) : lo - 16777216 ≤ most1 b r i ∧ most1 b r i ≤ 16777216 := by
  rw [Blank.ok_iff] at hb
  have h0 := h i hi
  unfold most1; split
  · have := h (i - 1) (by omega); omega
  · omega
theorem most2_bd {b : Blank} {l : List Pt} {r : List Int} {i n : Nat} {lo : Int} (hb : b.ok = true) (h : Bd r n lo) (hi : i < n) (hp : ∀ q, q < n → (-4194304 ≤ (l.getD q default).inn ∧ (l.getD q default).inn ≤ 4194304) ∧ (-4194304 ≤ (l.getD q default).out ∧ (l.getD q default).out ≤ 4194304)) : lo - 16777216 ≤ most2 b l r i ∧ most2 b l r i ≤ 16777216 := by
  have h1 := most1_bd hb h hi
  rw [Blank.ok_iff] at hb
  unfold most2; split
  · have := h (i - b.per.toNat) (by omega); have := hp (i - b.per.toNat) (by omega); have := hp i hi; omega
  · exact h1
theorem most_bd {b : Blank} {l : List Pt} {r : List Int} {i : Nat} {lo : Int} (hb : b.ok = true) (h : Bd r l.length lo) (hi : i < l.length) (hp : ∀ q, q < l.length → (-4194304 ≤ (l.getD q default).inn ∧ (l.getD q default).inn ≤ 4194304) ∧ (-4194304 ≤ (l.getD q default).out ∧ (l.getD q default).out ≤ 4194304)) : lo - 16777216 ≤ most b l r i ∧ most b l r i ≤ 16777216 := by
  have h1 := most2_bd hb h hi hp
  rw [Blank.ok_iff] at hb
  unfold most; split
  · have := h (i + 1) (by omega); omega
  · exact h1
theorem getD_set_self {r : List Int} {i : Nat} {x : Int} (h : i < r.length) : (r.set i x).getD i default = x := by simp [List.getD, h]
theorem getD_set_ne {r : List Int} {i q : Nat} {x : Int} (h : i ≠ q) : (r.set i x).getD q default = r.getD q default := by simp [List.getD, h]
theorem Bd.set {r : List Int} {n i : Nat} {x lo : Int} (h : Bd r n lo) (hi : i < r.length) (hx : lo - 16777216 ≤ x ∧ x ≤ 16777216) : Bd (r.set i x) n (lo - 16777216) := by
  intro q hq
  by_cases hqi : i = q
  · subst hqi; rw [getD_set_self hi]; exact hx
  · rw [getD_set_ne hqi]; have := h q hq; omega

theorem all_take_succ {α : Type} [Inhabited α] {l : List α} {f : α → Bool} {k : Nat} (hk : k < l.length) : (l.take (k + 1)).all f = ((l.take k).all f && f (l.getD k default)) := by
  rw [List.take_succ_eq_append_getElem hk, List.all_append]
  simp [List.getD, hk]
theorem not_all_of {α : Type} [Inhabited α] {l : List α} {f : α → Bool} {k : Nat} (hk : k < l.length) (h : f (l.getD k default) = false) : l.all f = false := by
  rw [List.all_eq_false]
  exact ⟨l[k], List.getElem_mem hk, by simp [List.getD, hk] at h; simp [h]⟩
end Go.Proofs.YtogljfjbilndnaaGreatDoor.Lathe
/- lathe: the small functions, walked -/
namespace Go.Proofs.YtogljfjbilndnaaGreatDoor.Lathe
open Go.Sx Go.Proofs

theorem C_lathe_between {x lo hi : Int} {w : World} : Con0 Tryz.prog 54 [I x, I lo, I hi] w (.bool (betw x lo hi)) := by
  refine Ret_of (vs := [_, _, _]) hm none' Tryz.func54 rfl Tryz.ntmps54 rfl ?_
  dsimp only [slotsOf]
  refine GE_seq ?_
  refine GE_plain (.st 0 .nil) rfl ?_
  refine GT_st rfl rfl rfl rfl (V_assign rfl rfl) ?_
  refine GT_nil ?_
  refine GE_seq ?_
  refine GE_plain (.st 0 (.st 1 (.st 2 (.st 3 (.st 4 (.st 5 (.st 6 (.st 7 (.st 8 .nil))))))))) rfl ?_
  refine GT_st rfl rfl rfl rfl (V_move rfl rfl) ?_
  refine GT_st rfl rfl rfl rfl (V_move rfl rfl) ?_
  refine GT_st rfl rfl rfl rfl (V_geq rfl rfl rfl) ?_
  refine GT_st rfl rfl rfl rfl (V_move rfl rfl) ?_
  first | refine GT_splitNot (d := 10) rfl (fun h1 => ?_) (fun h1 => ?_) | refine GT_split (d := 10) rfl (fun h1 => ?_) (fun h1 => ?_) | refine GT_splitNotB (d := 10) rfl (fun h1 => ?_) (fun h1 => ?_) | refine GT_splitB (d := 10) rfl (fun h1 => ?_) (fun h1 => ?_)
  · skip
    refine GT_st_g rfl rfl rfl rfl rfl rfl rfl (V_move rfl rfl) ?_
    refine GT_st_g rfl rfl rfl rfl rfl rfl rfl (V_move rfl rfl) ?_
    refine GT_st_g rfl rfl rfl rfl rfl rfl rfl (V_leq rfl rfl rfl) ?_
    refine GT_st rfl rfl rfl rfl (V_pick_t rfl rfl rfl) ?_
    refine GT_st rfl rfl rfl rfl (V_assign rfl rfl) ?_
    refine GT_nil ?_
    refine GE_ret Tryz.func54 rfl (fun w hw => ⟨?_, hw.nil⟩)
    simp [betw, *]
  · skip
    refine GT_skip rfl rfl rfl rfl rfl (by decide) rfl rfl ?_
    refine GT_skip rfl rfl rfl rfl rfl (by decide) rfl rfl ?_
    refine GT_skip rfl rfl rfl rfl rfl (by decide) rfl rfl ?_
    refine GT_st rfl rfl rfl rfl (V_pick_f rfl rfl rfl) ?_
    refine GT_st rfl rfl rfl rfl (V_assign rfl rfl) ?_
    refine GT_nil ?_
    refine GE_ret Tryz.func54 rfl (fun w hw => ⟨?_, hw.nil⟩)
    simp [betw, *]
theorem C_groove_between {x lo hi : Int} {w : World} : Con0 Tryz.prog 72 [I x, I lo, I hi] w (.bool (betw x lo hi)) := by
  refine Ret_of (vs := [_, _, _]) hm none' Tryz.func72 rfl Tryz.ntmps72 rfl ?_
  dsimp only [slotsOf]
  refine GE_seq ?_
  refine GE_plain (.st 0 .nil) rfl ?_
  refine GT_st rfl rfl rfl rfl (V_assign rfl rfl) ?_
  refine GT_nil ?_
  refine GE_seq ?_
  refine GE_plain (.st 0 (.st 1 (.st 2 (.st 3 (.st 4 (.st 5 (.st 6 (.st 7 (.st 8 .nil))))))))) rfl ?_
  refine GT_st rfl rfl rfl rfl (V_move rfl rfl) ?_
  refine GT_st rfl rfl rfl rfl (V_move rfl rfl) ?_
  refine GT_st rfl rfl rfl rfl (V_geq rfl rfl rfl) ?_
  refine GT_st rfl rfl rfl rfl (V_move rfl rfl) ?_
  first | refine GT_splitNot (d := 10) rfl (fun h1 => ?_) (fun h1 => ?_) | refine GT_split (d := 10) rfl (fun h1 => ?_) (fun h1 => ?_) | refine GT_splitNotB (d := 10) rfl (fun h1 => ?_) (fun h1 => ?_) | refine GT_splitB (d := 10) rfl (fun h1 => ?_) (fun h1 => ?_)
  · skip
    refine GT_st_g rfl rfl rfl rfl rfl rfl rfl (V_move rfl rfl) ?_
    refine GT_st_g rfl rfl rfl rfl rfl rfl rfl (V_move rfl rfl) ?_
    refine GT_st_g rfl rfl rfl rfl rfl rfl rfl (V_leq rfl rfl rfl) ?_
    refine GT_st rfl rfl rfl rfl (V_pick_t rfl rfl rfl) ?_
    refine GT_st rfl rfl rfl rfl (V_assign rfl rfl) ?_
    refine GT_nil ?_
    refine GE_ret Tryz.func72 rfl (fun w hw => ⟨?_, hw.nil⟩)
    simp [betw, *]
  · skip
    refine GT_skip rfl rfl rfl rfl rfl (by decide) rfl rfl ?_
    refine GT_skip rfl rfl rfl rfl rfl (by decide) rfl rfl ?_
    refine GT_skip rfl rfl rfl rfl rfl (by decide) rfl rfl ?_
    refine GT_st rfl rfl rfl rfl (V_pick_f rfl rfl rfl) ?_
    refine GT_st rfl rfl rfl rfl (V_assign rfl rfl) ?_
    refine GT_nil ?_
    refine GE_ret Tryz.func72 rfl (fun w hw => ⟨?_, hw.nil⟩)
    simp [betw, *]
theorem C_lathe_Check {b : Blank} {w : World} : Con0 Tryz.prog 31 [b.val] w (I b.check) := by
  refine Ret_of (vs := [_]) hm none' Tryz.func31 rfl Tryz.ntmps31 rfl ?_
  dsimp only [slotsOf]
  refine GE_seq ?_
  refine GE_plain (.ld 0 [] (.st 1 .nil)) rfl ?_
  refine GT_box (z := [_, _, _, _, _, _]) rfl rfl rfl rfl rfl rfl rfl (fun _ => GR_nil) (fun b1 => ?_)
  refine GT_st rfl rfl rfl rfl (V_assign rfl rfl) ?_
  refine GT_nil ?_
  refine GE_seq ?_
  refine GE_seq ?_
  refine GE_plain (.st 0 (.st 1 (.ld 2 [] (.st 3 (.st 4 (.st 5 (.st 6 (.ld 7 [] (.st 8 (.st 9 (.st 10 (.st 11 (.st 12 (.st 13 (.st 14 (.ld 15 [] (.st 16 (.st 17 (.st 18 (.st 19 (.st 20 (.ld 21 [] (.st 22 (.st 23 (.st 24 (.st 25 (.st 26 (.ld 27 [] (.st 28 (.st 29 (.st 30 (.st 31 (.st 32 (.st 33 (.st 34 (.ld 35 [] (.st 36 (.st 37 .nil)))))))))))))))))))))))))))))))))))))) rfl ?_
  first | refine GT_st rfl rfl rfl rfl (V_field rfl rfl fo_28_0) ?_ | refine GT_st rfl rfl rfl rfl (V_fieldA rfl rfl fo_28_0) ?_
  refine GT_st rfl rfl rfl rfl (V_load rfl rfl ag_2 (CellAt.item rfl)) ?_
  refine GT_call0 rfl rfl rfl rfl rfl rfl rfl rfl rn_54 (fun w hw => C_lathe_between) (GR_nil) ?_
  first | refine GT_st rfl rfl rfl rfl (V_not rfl rfl) ?_ | refine GT_st rfl rfl rfl rfl (V_notB rfl rfl) ?_
  refine GT_st rfl rfl rfl rfl (V_move rfl rfl) ?_
  first | refine GT_splitNot (d := 7) rfl (fun h1 => ?_) (fun h1 => ?_) | refine GT_split (d := 7) rfl (fun h1 => ?_) (fun h1 => ?_) | refine GT_splitNotB (d := 7) rfl (fun h1 => ?_) (fun h1 => ?_) | refine GT_splitB (d := 7) rfl (fun h1 => ?_) (fun h1 => ?_)
  · skip
    refine GT_skip rfl rfl rfl rfl rfl (by decide) rfl rfl ?_
    refine GT_skip rfl rfl rfl rfl rfl (by decide) rfl rfl ?_
    refine GT_skip_ld rfl rfl rfl rfl rfl (by decide) rfl rfl rfl (GR_nil) ?_
    refine GT_skip rfl rfl rfl rfl rfl (by decide) rfl rfl ?_
    refine GT_st rfl rfl rfl rfl (V_pick_t rfl rfl rfl) ?_
    refine GT_st rfl rfl rfl rfl (V_move rfl rfl) ?_
    refine GT_skip rfl rfl rfl rfl rfl (by decide) rfl rfl ?_
    refine GT_skip rfl rfl rfl rfl rfl (by decide) rfl rfl ?_
    refine GT_skip rfl rfl rfl rfl rfl (by decide) rfl rfl ?_
    refine GT_skip rfl rfl rfl rfl rfl (by decide) rfl rfl ?_
    refine GT_skip_ld rfl rfl rfl rfl rfl (by decide) rfl rfl rfl (GR_nil) ?_
    refine GT_skip rfl rfl rfl rfl rfl (by decide) rfl rfl ?_
    refine GT_st rfl rfl rfl rfl (V_pick_t rfl rfl rfl) ?_
    refine GT_st rfl rfl rfl rfl (V_move rfl rfl) ?_
    refine GT_skip rfl rfl rfl rfl rfl (by decide) rfl rfl ?_
    refine GT_skip rfl rfl rfl rfl rfl (by decide) rfl rfl ?_
    refine GT_skip_ld rfl rfl rfl rfl rfl (by decide) rfl rfl rfl (GR_nil) ?_
    refine GT_skip rfl rfl rfl rfl rfl (by decide) rfl rfl ?_
    refine GT_st rfl rfl rfl rfl (V_pick_t rfl rfl rfl) ?_
    refine GT_st rfl rfl rfl rfl (V_move rfl rfl) ?_
    refine GT_skip rfl rfl rfl rfl rfl (by decide) rfl rfl ?_
    refine GT_skip rfl rfl rfl rfl rfl (by decide) rfl rfl ?_
    refine GT_skip_ld rfl rfl rfl rfl rfl (by decide) rfl rfl rfl (GR_nil) ?_
    refine GT_skip rfl rfl rfl rfl rfl (by decide) rfl rfl ?_
    refine GT_st rfl rfl rfl rfl (V_pick_t rfl rfl rfl) ?_
    refine GT_st rfl rfl rfl rfl (V_move rfl rfl) ?_
    refine GT_skip rfl rfl rfl rfl rfl (by decide) rfl rfl ?_
    refine GT_skip rfl rfl rfl rfl rfl (by decide) rfl rfl ?_
    refine GT_skip rfl rfl rfl rfl rfl (by decide) rfl rfl ?_
    refine GT_skip rfl rfl rfl rfl rfl (by decide) rfl rfl ?_
    refine GT_skip_ld rfl rfl rfl rfl rfl (by decide) rfl rfl rfl (GR_nil) ?_
    refine GT_skip rfl rfl rfl rfl rfl (by decide) rfl rfl ?_
    refine GT_st rfl rfl rfl rfl (V_pick_t rfl rfl rfl) ?_
    refine GT_nil ?_
    refine GE_cond_t rfl ?_
    refine GE_seq ?_
    refine GE_slots (L' := []) trivial ?_
    refine GE_plain (.st 0 .nil) rfl ?_
    refine GT_st rfl rfl rfl rfl (V_assign rfl rfl) ?_
    refine GT_nil ?_
    refine GE_ret Tryz.func31 rfl (fun w hw => ⟨?_, hw.nil⟩)
    simp [Blank.check, Blank.ok, *]
  · skip
    first | refine GT_st_g rfl rfl rfl rfl rfl rfl rfl (V_field rfl rfl fo_28_1) ?_ | refine GT_st_g rfl rfl rfl rfl rfl rfl rfl (V_fieldA rfl rfl fo_28_1) ?_
    refine GT_st_g rfl rfl rfl rfl rfl rfl rfl (V_load rfl rfl ag_2 (CellAt.item rfl)) ?_
    refine GT_call0_g rfl rfl rfl rfl rfl rfl rfl rfl rfl rfl rfl rn_54 (fun w hw => C_lathe_between) (GR_nil) ?_
    first | refine GT_st_g rfl rfl rfl rfl rfl rfl rfl (V_not rfl rfl) ?_ | refine GT_st_g rfl rfl rfl rfl rfl rfl rfl (V_notB rfl rfl) ?_
    refine GT_st rfl rfl rfl rfl (V_pick_f rfl rfl rfl) ?_
    refine GT_st rfl rfl rfl rfl (V_move rfl rfl) ?_
    first | refine GT_splitNot (d := 13) rfl (fun h2 => ?_) (fun h2 => ?_) | refine GT_split (d := 13) rfl (fun h2 => ?_) (fun h2 => ?_) | refine GT_splitNotB (d := 13) rfl (fun h2 => ?_) (fun h2 => ?_) | refine GT_splitB (d := 13) rfl (fun h2 => ?_) (fun h2 => ?_)
    · skip
      refine GT_skip rfl rfl rfl rfl rfl (by decide) rfl rfl ?_
      refine GT_skip rfl rfl rfl rfl rfl (by decide) rfl rfl ?_
      refine GT_skip rfl rfl rfl rfl rfl (by decide) rfl rfl ?_
      refine GT_skip rfl rfl rfl rfl rfl (by decide) rfl rfl ?_
      refine GT_skip_ld rfl rfl rfl rfl rfl (by decide) rfl rfl rfl (GR_nil) ?_
      refine GT_skip rfl rfl rfl rfl rfl (by decide) rfl rfl ?_
      refine GT_st rfl rfl rfl rfl (V_pick_t rfl rfl rfl) ?_
      refine GT_st rfl rfl rfl rfl (V_move rfl rfl) ?_
      refine GT_skip rfl rfl rfl rfl rfl (by decide) rfl rfl ?_
      refine GT_skip rfl rfl rfl rfl rfl (by decide) rfl rfl ?_
      refine GT_skip_ld rfl rfl rfl rfl rfl (by decide) rfl rfl rfl (GR_nil) ?_
      refine GT_skip rfl rfl rfl rfl rfl (by decide) rfl rfl ?_
      refine GT_st rfl rfl rfl rfl (V_pick_t rfl rfl rfl) ?_
      refine GT_st rfl rfl rfl rfl (V_move rfl rfl) ?_
      refine GT_skip rfl rfl rfl rfl rfl (by decide) rfl rfl ?_
      refine GT_skip rfl rfl rfl rfl rfl (by decide) rfl rfl ?_
      refine GT_skip_ld rfl rfl rfl rfl rfl (by decide) rfl rfl rfl (GR_nil) ?_
      refine GT_skip rfl rfl rfl rfl rfl (by decide) rfl rfl ?_
      refine GT_st rfl rfl rfl rfl (V_pick_t rfl rfl rfl) ?_
      refine GT_st rfl rfl rfl rfl (V_move rfl rfl) ?_
      refine GT_skip rfl rfl rfl rfl rfl (by decide) rfl rfl ?_
      refine GT_skip rfl rfl rfl rfl rfl (by decide) rfl rfl ?_
      refine GT_skip rfl rfl rfl rfl rfl (by decide) rfl rfl ?_
      refine GT_skip rfl rfl rfl rfl rfl (by decide) rfl rfl ?_
      refine GT_skip_ld rfl rfl rfl rfl rfl (by decide) rfl rfl rfl (GR_nil) ?_
      refine GT_skip rfl rfl rfl rfl rfl (by decide) rfl rfl ?_
      refine GT_st rfl rfl rfl rfl (V_pick_t rfl rfl rfl) ?_
      refine GT_nil ?_
      refine GE_cond_t rfl ?_
      refine GE_seq ?_
      refine GE_slots (L' := []) trivial ?_
      refine GE_plain (.st 0 .nil) rfl ?_
      refine GT_st rfl rfl rfl rfl (V_assign rfl rfl) ?_
      refine GT_nil ?_
      refine GE_ret Tryz.func31 rfl (fun w hw => ⟨?_, hw.nil⟩)
      simp [Blank.check, Blank.ok, *]
    · skip
      first | refine GT_st_g rfl rfl rfl rfl rfl rfl rfl (V_field rfl rfl fo_28_2) ?_ | refine GT_st_g rfl rfl rfl rfl rfl rfl rfl (V_fieldA rfl rfl fo_28_2) ?_
      refine GT_st_g rfl rfl rfl rfl rfl rfl rfl (V_load rfl rfl ag_2 (CellAt.item rfl)) ?_
      first | refine GT_st_g rfl rfl rfl rfl rfl rfl rfl (V_field rfl rfl fo_28_1) ?_ | refine GT_st_g rfl rfl rfl rfl rfl rfl rfl (V_fieldA rfl rfl fo_28_1) ?_
      refine GT_st_g rfl rfl rfl rfl rfl rfl rfl (V_load rfl rfl ag_2 (CellAt.item rfl)) ?_
      refine GT_call0_g rfl rfl rfl rfl rfl rfl rfl rfl rfl rfl rfl rn_54 (fun w hw => C_lathe_between) (GR_nil) ?_
      first | refine GT_st_g rfl rfl rfl rfl rfl rfl rfl (V_not rfl rfl) ?_ | refine GT_st_g rfl rfl rfl rfl rfl rfl rfl (V_notB rfl rfl) ?_
      refine GT_st rfl rfl rfl rfl (V_pick_f rfl rfl rfl) ?_
      refine GT_st rfl rfl rfl rfl (V_move rfl rfl) ?_
      first | refine GT_splitNot (d := 21) rfl (fun h3 => ?_) (fun h3 => ?_) | refine GT_split (d := 21) rfl (fun h3 => ?_) (fun h3 => ?_) | refine GT_splitNotB (d := 21) rfl (fun h3 => ?_) (fun h3 => ?_) | refine GT_splitB (d := 21) rfl (fun h3 => ?_) (fun h3 => ?_)
      · skip
        refine GT_skip rfl rfl rfl rfl rfl (by decide) rfl rfl ?_
        refine GT_skip rfl rfl rfl rfl rfl (by decide) rfl rfl ?_
        refine GT_skip_ld rfl rfl rfl rfl rfl (by decide) rfl rfl rfl (GR_nil) ?_
        refine GT_skip rfl rfl rfl rfl rfl (by decide) rfl rfl ?_
        refine GT_st rfl rfl rfl rfl (V_pick_t rfl rfl rfl) ?_
        refine GT_st rfl rfl rfl rfl (V_move rfl rfl) ?_
        refine GT_skip rfl rfl rfl rfl rfl (by decide) rfl rfl ?_
        refine GT_skip rfl rfl rfl rfl rfl (by decide) rfl rfl ?_
        refine GT_skip_ld rfl rfl rfl rfl rfl (by decide) rfl rfl rfl (GR_nil) ?_
        refine GT_skip rfl rfl rfl rfl rfl (by decide) rfl rfl ?_
        refine GT_st rfl rfl rfl rfl (V_pick_t rfl rfl rfl) ?_
        refine GT_st rfl rfl rfl rfl (V_move rfl rfl) ?_
        refine GT_skip rfl rfl rfl rfl rfl (by decide) rfl rfl ?_
        refine GT_skip rfl rfl rfl rfl rfl (by decide) rfl rfl ?_
        refine GT_skip rfl rfl rfl rfl rfl (by decide) rfl rfl ?_
        refine GT_skip rfl rfl rfl rfl rfl (by decide) rfl rfl ?_
        refine GT_skip_ld rfl rfl rfl rfl rfl (by decide) rfl rfl rfl (GR_nil) ?_
        refine GT_skip rfl rfl rfl rfl rfl (by decide) rfl rfl ?_
        refine GT_st rfl rfl rfl rfl (V_pick_t rfl rfl rfl) ?_
        refine GT_nil ?_
        refine GE_cond_t rfl ?_
        refine GE_seq ?_
        refine GE_slots (L' := []) trivial ?_
        refine GE_plain (.st 0 .nil) rfl ?_
        refine GT_st rfl rfl rfl rfl (V_assign rfl rfl) ?_
        refine GT_nil ?_
        refine GE_ret Tryz.func31 rfl (fun w hw => ⟨?_, hw.nil⟩)
        simp [Blank.check, Blank.ok, *]
      · skip
        first | refine GT_st_g rfl rfl rfl rfl rfl rfl rfl (V_field rfl rfl fo_28_3) ?_ | refine GT_st_g rfl rfl rfl rfl rfl rfl rfl (V_fieldA rfl rfl fo_28_3) ?_
        refine GT_st_g rfl rfl rfl rfl rfl rfl rfl (V_load rfl rfl ag_2 (CellAt.item rfl)) ?_
        refine GT_call0_g rfl rfl rfl rfl rfl rfl rfl rfl rfl rfl rfl rn_54 (fun w hw => C_lathe_between) (GR_nil) ?_
        first | refine GT_st_g rfl rfl rfl rfl rfl rfl rfl (V_not rfl rfl) ?_ | refine GT_st_g rfl rfl rfl rfl rfl rfl rfl (V_notB rfl rfl) ?_
        refine GT_st rfl rfl rfl rfl (V_pick_f rfl rfl rfl) ?_
        refine GT_st rfl rfl rfl rfl (V_move rfl rfl) ?_
        first | refine GT_splitNot (d := 27) rfl (fun h4 => ?_) (fun h4 => ?_) | refine GT_split (d := 27) rfl (fun h4 => ?_) (fun h4 => ?_) | refine GT_splitNotB (d := 27) rfl (fun h4 => ?_) (fun h4 => ?_) | refine GT_splitB (d := 27) rfl (fun h4 => ?_) (fun h4 => ?_)
        · skip
          refine GT_skip rfl rfl rfl rfl rfl (by decide) rfl rfl ?_
          refine GT_skip rfl rfl rfl rfl rfl (by decide) rfl rfl ?_
          refine GT_skip_ld rfl rfl rfl rfl rfl (by decide) rfl rfl rfl (GR_nil) ?_
          refine GT_skip rfl rfl rfl rfl rfl (by decide) rfl rfl ?_
          refine GT_st rfl rfl rfl rfl (V_pick_t rfl rfl rfl) ?_
          refine GT_st rfl rfl rfl rfl (V_move rfl rfl) ?_
          refine GT_skip rfl rfl rfl rfl rfl (by decide) rfl rfl ?_
          refine GT_skip rfl rfl rfl rfl rfl (by decide) rfl rfl ?_
          refine GT_skip rfl rfl rfl rfl rfl (by decide) rfl rfl ?_
          refine GT_skip rfl rfl rfl rfl rfl (by decide) rfl rfl ?_
          refine GT_skip_ld rfl rfl rfl rfl rfl (by decide) rfl rfl rfl (GR_nil) ?_
          refine GT_skip rfl rfl rfl rfl rfl (by decide) rfl rfl ?_
          refine GT_st rfl rfl rfl rfl (V_pick_t rfl rfl rfl) ?_
          refine GT_nil ?_
          refine GE_cond_t rfl ?_
          refine GE_seq ?_
          refine GE_slots (L' := []) trivial ?_
          refine GE_plain (.st 0 .nil) rfl ?_
          refine GT_st rfl rfl rfl rfl (V_assign rfl rfl) ?_
          refine GT_nil ?_
          refine GE_ret Tryz.func31 rfl (fun w hw => ⟨?_, hw.nil⟩)
          simp [Blank.check, Blank.ok, *]
        · skip
          first | refine GT_st_g rfl rfl rfl rfl rfl rfl rfl (V_field rfl rfl fo_28_5) ?_ | refine GT_st_g rfl rfl rfl rfl rfl rfl rfl (V_fieldA rfl rfl fo_28_5) ?_
          refine GT_st_g rfl rfl rfl rfl rfl rfl rfl (V_load rfl rfl ag_2 (CellAt.item rfl)) ?_
          refine GT_call0_g rfl rfl rfl rfl rfl rfl rfl rfl rfl rfl rfl rn_54 (fun w hw => C_lathe_between) (GR_nil) ?_
          first | refine GT_st_g rfl rfl rfl rfl rfl rfl rfl (V_not rfl rfl) ?_ | refine GT_st_g rfl rfl rfl rfl rfl rfl rfl (V_notB rfl rfl) ?_
          refine GT_st rfl rfl rfl rfl (V_pick_f rfl rfl rfl) ?_
          refine GT_st rfl rfl rfl rfl (V_move rfl rfl) ?_
          first | refine GT_splitNot (d := 33) rfl (fun h5 => ?_) (fun h5 => ?_) | refine GT_split (d := 33) rfl (fun h5 => ?_) (fun h5 => ?_) | refine GT_splitNotB (d := 33) rfl (fun h5 => ?_) (fun h5 => ?_) | refine GT_splitB (d := 33) rfl (fun h5 => ?_) (fun h5 => ?_)
          · skip
            refine GT_skip rfl rfl rfl rfl rfl (by decide) rfl rfl ?_
            refine GT_skip rfl rfl rfl rfl rfl (by decide) rfl rfl ?_
            refine GT_skip rfl rfl rfl rfl rfl (by decide) rfl rfl ?_
            refine GT_skip rfl rfl rfl rfl rfl (by decide) rfl rfl ?_
            refine GT_skip_ld rfl rfl rfl rfl rfl (by decide) rfl rfl rfl (GR_nil) ?_
            refine GT_skip rfl rfl rfl rfl rfl (by decide) rfl rfl ?_
            refine GT_st rfl rfl rfl rfl (V_pick_t rfl rfl rfl) ?_
            refine GT_nil ?_
            refine GE_cond_t rfl ?_
            refine GE_seq ?_
            refine GE_slots (L' := []) trivial ?_
            refine GE_plain (.st 0 .nil) rfl ?_
            refine GT_st rfl rfl rfl rfl (V_assign rfl rfl) ?_
            refine GT_nil ?_
            refine GE_ret Tryz.func31 rfl (fun w hw => ⟨?_, hw.nil⟩)
            simp [Blank.check, Blank.ok, *]
          · skip
            first | refine GT_st_g rfl rfl rfl rfl rfl rfl rfl (V_field rfl rfl fo_28_4) ?_ | refine GT_st_g rfl rfl rfl rfl rfl rfl rfl (V_fieldA rfl rfl fo_28_4) ?_
            refine GT_st_g rfl rfl rfl rfl rfl rfl rfl (V_load rfl rfl ag_2 (CellAt.item rfl)) ?_
            first | refine GT_st_g rfl rfl rfl rfl rfl rfl rfl (V_field rfl rfl fo_28_5) ?_ | refine GT_st_g rfl rfl rfl rfl rfl rfl rfl (V_fieldA rfl rfl fo_28_5) ?_
            refine GT_st_g rfl rfl rfl rfl rfl rfl rfl (V_load rfl rfl ag_2 (CellAt.item rfl)) ?_
            refine GT_call0_g rfl rfl rfl rfl rfl rfl rfl rfl rfl rfl rfl rn_54 (fun w hw => C_lathe_between) (GR_nil) ?_
            first | refine GT_st_g rfl rfl rfl rfl rfl rfl rfl (V_not rfl rfl) ?_ | refine GT_st_g rfl rfl rfl rfl rfl rfl rfl (V_notB rfl rfl) ?_
            refine GT_st rfl rfl rfl rfl (V_pick_f rfl rfl rfl) ?_
            refine GT_nil ?_
            first | refine GE_condNot rfl (fun h6 => ?_) (fun h6 => ?_) | refine GE_cond rfl (fun h6 => ?_) (fun h6 => ?_) | refine GE_condNotB rfl (fun h6 => ?_) (fun h6 => ?_) | refine GE_condB rfl (fun h6 => ?_) (fun h6 => ?_)
            · skip
              refine GE_seq ?_
              refine GE_slots (L' := []) trivial ?_
              refine GE_plain (.st 0 .nil) rfl ?_
              refine GT_st rfl rfl rfl rfl (V_assign rfl rfl) ?_
              refine GT_nil ?_
              refine GE_ret Tryz.func31 rfl (fun w hw => ⟨?_, hw.nil⟩)
              simp [Blank.check, Blank.ok, *]
            · skip
              refine GE_skip ?_
              refine GE_seq ?_
              refine GE_slots (L' := []) trivial ?_
              refine GE_plain (.st 0 .nil) rfl ?_
              refine GT_st rfl rfl rfl rfl (V_assign rfl rfl) ?_
              refine GT_nil ?_
              refine GE_ret Tryz.func31 rfl (fun w hw => ⟨?_, hw.nil⟩)
              simp [Blank.check, Blank.ok, *]
theorem C_groove_edged {p : Pt} {w : World} : Con0 Tryz.prog 55 [.agg (ePt p).toArray] w (.bool (ptOk p)) := by
  refine Ret_of (vs := [_]) hm none' Tryz.func55 rfl Tryz.ntmps55 rfl ?_
  dsimp only [slotsOf]
  refine GE_seq ?_
  refine GE_plain (.ld 0 [] (.st 1 .nil)) rfl ?_
  refine GT_box (z := [_, _]) rfl rfl rfl rfl rfl rfl rfl (fun _ => GR_nil) (fun b1 => ?_)
  refine GT_st rfl rfl rfl rfl (V_assign rfl rfl) ?_
  refine GT_nil ?_
  refine GE_seq ?_
  refine GE_plain (.st 0 (.st 1 (.ld 2 [] (.st 3 (.st 4 (.st 5 (.ld 6 [] (.st 7 (.st 8 .nil))))))))) rfl ?_
  first | refine GT_st rfl rfl rfl rfl (V_field rfl rfl fo_53_0) ?_ | refine GT_st rfl rfl rfl rfl (V_fieldA rfl rfl fo_53_0) ?_
  refine GT_st rfl rfl rfl rfl (V_load rfl rfl ag_2 (CellAt.item rfl)) ?_
  refine GT_call0 rfl rfl rfl rfl rfl rfl rfl rfl rn_72 (fun w hw => C_groove_between) (GR_nil) ?_
  refine GT_st rfl rfl rfl rfl (V_move rfl rfl) ?_
  first | refine GT_splitNot (d := 6) rfl (fun h1 => ?_) (fun h1 => ?_) | refine GT_split (d := 6) rfl (fun h1 => ?_) (fun h1 => ?_) | refine GT_splitNotB (d := 6) rfl (fun h1 => ?_) (fun h1 => ?_) | refine GT_splitB (d := 6) rfl (fun h1 => ?_) (fun h1 => ?_)
  · skip
    first | refine GT_st_g rfl rfl rfl rfl rfl rfl rfl (V_field rfl rfl fo_53_1) ?_ | refine GT_st_g rfl rfl rfl rfl rfl rfl rfl (V_fieldA rfl rfl fo_53_1) ?_
    refine GT_st_g rfl rfl rfl rfl rfl rfl rfl (V_load rfl rfl ag_2 (CellAt.item rfl)) ?_
    refine GT_call0_g rfl rfl rfl rfl rfl rfl rfl rfl rfl rfl rfl rn_72 (fun w hw => C_groove_between) (GR_nil) ?_
    refine GT_st rfl rfl rfl rfl (V_pick_t rfl rfl rfl) ?_
    refine GT_st rfl rfl rfl rfl (V_assign rfl rfl) ?_
    refine GT_nil ?_
    refine GE_ret Tryz.func55 rfl (fun w hw => ⟨?_, hw.nil⟩)
    simp [ptOk, *]
  · skip
    refine GT_skip rfl rfl rfl rfl rfl (by decide) rfl rfl ?_
    refine GT_skip rfl rfl rfl rfl rfl (by decide) rfl rfl ?_
    refine GT_skip_ld rfl rfl rfl rfl rfl (by decide) rfl rfl rfl (GR_nil) ?_
    refine GT_st rfl rfl rfl rfl (V_pick_f rfl rfl rfl) ?_
    refine GT_st rfl rfl rfl rfl (V_assign rfl rfl) ?_
    refine GT_nil ?_
    refine GE_ret Tryz.func55 rfl (fun w hw => ⟨?_, hw.nil⟩)
    simp [ptOk, *]
theorem C_groove_CheckPoints {A : Option Addr} {l : List Pt} {c : Nat} {w : World} (hp : RdL w 2 ePt A l) : Con0 Tryz.prog 32 [.slice A l.length c] w (I (ptsCheck l)) := by
  refine Ret_of (vs := [_]) hm none' Tryz.func32 rfl Tryz.ntmps32 rfl ?_
  dsimp only [slotsOf]
  refine GE_seq ?_
  refine GE_plain (.st 0 .nil) rfl ?_
  refine GT_st rfl rfl rfl rfl (V_assign rfl rfl) ?_
  refine GT_nil ?_
  refine GE_seq ?_
  refine GE_seq ?_
  refine GE_plain (.st 0 (.st 1 (.st 2 .nil))) rfl ?_
  refine GT_st rfl rfl rfl rfl (V_move rfl rfl) ?_
  refine GT_st rfl rfl rfl rfl (V_len rfl Tryz.underlying30 rfl) ?_
  refine GT_st rfl rfl rfl rfl (V_gtr rfl rfl rfl) ?_
  refine GT_nil ?_
  first | refine GE_condNot rfl (fun h1 => ?_) (fun h1 => ?_) | refine GE_cond rfl (fun h1 => ?_) (fun h1 => ?_) | refine GE_condNotB rfl (fun h1 => ?_) (fun h1 => ?_) | refine GE_condB rfl (fun h1 => ?_) (fun h1 => ?_)
  · skip
    refine GE_seq ?_
    refine GE_slots (L' := []) trivial ?_
    refine GE_plain (.st 0 .nil) rfl ?_
    refine GT_st rfl rfl rfl rfl (V_assign rfl rfl) ?_
    refine GT_nil ?_
    refine GE_ret Tryz.func32 rfl (fun w hw => ⟨?_, hw.nil⟩)
    first | (simp [ptsCheck, *]; done) | (simp only [ptsCheck]; rw [if_pos (by omega)]) | (simp only [ptsCheck]; rw [if_neg (by omega), hn]; rfl) | (simp only [ptsCheck]; rw [List.take_of_length_le (by omega)] at hall; rw [if_neg (by omega), hall]; rfl)
  · skip
    refine GE_skip ?_
    refine GE_seq ?_
    refine GE_seq ?_
    refine GE_slots (L' := [(0, _)]) ⟨rfl, trivial⟩ ?_
    refine GE_plain (.st 0 (.st 1 (.st 2 .nil))) rfl ?_
    refine GT_st rfl rfl rfl rfl (V_move rfl rfl) ?_
    refine GT_st rfl rfl rfl rfl (V_len rfl Tryz.underlying30 rfl) ?_
    refine GT_st rfl rfl rfl rfl (V_move rfl rfl) ?_
    refine GT_nil ?_
    refine GE_block ?_
    refine GE_to (GE_loop (ι := Nat) (fun k => l.length - k) (fun k => [(8, .slice A l.length c), (9, I l.length), (10, I k)]) (fun k => []) (fun k => k ≤ l.length ∧ (l.take k).all ptOk = true) ?_ 0 ?_) ⟨rfl, rfl, rfl, trivial⟩ HS.nil
    · rintro k ⟨hk, hall⟩ ih
      refine GE_seq ?_
      refine GE_plain (.st 0 .nil) rfl ?_
      refine GT_st rfl rfl rfl rfl (V_lss rfl rfl rfl) ?_
      refine GT_nil ?_
      refine GE_seq ?_
      first | refine GE_condNot rfl (fun h2 => ?_) (fun h2 => ?_) | refine GE_cond rfl (fun h2 => ?_) (fun h2 => ?_) | refine GE_condNotB rfl (fun h2 => ?_) (fun h2 => ?_) | refine GE_condB rfl (fun h2 => ?_) (fun h2 => ?_)
      · have hlt : k < l.length := by omega
        refine GE_skip ?_
        refine GE_seq ?_
        refine GE_block ?_
        refine GE_seq ?_
        refine GE_plain (.st 0 (.st 1 (.ld 2 [] (.ld 3 [] .nil)))) rfl ?_
        refine GT_st rfl rfl rfl rfl (V_index rfl rfl rfl Tryz.underlying30 sz_53 rfl hlt (hp.isSome hlt)) ?_
        refine GT_st rfl rfl rfl rfl (V_loadN (vs := [_, _]) rfl rfl ag_53 sz_53 rfl (hp.ats noM hlt)) ?_
        refine GT_alloc rfl rfl rfl rfl rfl zc_53 (fun _ => GR_nil) (fun b4 => ?_)
        refine GT_store (vs := [_, _]) (l' := [_, _]) rfl rfl rfl rfl rfl rfl rfl sz_53 rfl rfl (Nat.le_of_ble_eq_true rfl) rfl (GR_nil) ?_
        refine GT_nil ?_
        refine GE_seq ?_
        refine GE_plain (.st 0 (.ld 1 [] (.st 2 .nil))) rfl ?_
        refine GT_st rfl rfl rfl rfl (V_loadN (vs := [_, _]) rfl rfl ag_53 sz_53 rfl (CellsAt.item rfl)) ?_
        refine GT_call0 rfl rfl rfl rfl rfl rfl rfl rfl rn_55 (fun w hw => C_groove_edged (p := l.getD k default)) (GR_nil) ?_
        first | refine GT_st rfl rfl rfl rfl (V_not rfl rfl) ?_ | refine GT_st rfl rfl rfl rfl (V_notB rfl rfl) ?_
        refine GT_nil ?_
        first | refine GE_condNot rfl (fun hb => ?_) (fun hb => ?_) | refine GE_cond rfl (fun hb => ?_) (fun hb => ?_) | refine GE_condNotB rfl (fun hb => ?_) (fun hb => ?_) | refine GE_condB rfl (fun hb => ?_) (fun hb => ?_)
        · have hn := not_all_of hlt hb
          refine GE_seq ?_
          refine GE_slots (L' := []) trivial ?_
          refine GE_plain (.st 0 .nil) rfl ?_
          refine GT_st rfl rfl rfl rfl (V_assign rfl rfl) ?_
          refine GT_nil ?_
          refine GE_ret Tryz.func32 rfl (fun w hw => ⟨?_, hw.nil⟩)
          first | (simp [ptsCheck, *]; done) | (simp only [ptsCheck]; rw [if_pos (by omega)]) | (simp only [ptsCheck]; rw [if_neg (by omega), hn]; rfl) | (simp only [ptsCheck]; rw [List.take_of_length_le (by omega)] at hall; rw [if_neg (by omega), hall]; rfl)
        · skip
          refine GE_skip ?_
          refine GE_inBlock ?_
          refine GE_slots (L' := [(8, _), (9, _), (10, _)]) ⟨rfl, rfl, rfl, trivial⟩ ?_
          refine GE_plain (.st 0 (.ld 1 [] .nil)) rfl ?_
          refine GT_st rfl rfl rfl rfl (V_add rfl rfl rfl (wrap_i64 (by omega))) ?_
          refine GT_ldv rfl rfl rfl rfl rfl (V_move rfl rfl) (GR_nil) ?_
          refine GT_nil ?_
          exact GE_to (ih (k + 1) ⟨by omega, by rw [all_take_succ (by omega), hall, hb]; rfl⟩ (by omega)) ⟨rfl, rfl, rfl, trivial⟩ HS.nil
      · skip
        refine GE_exit rfl ?_
        refine GE_seq ?_
        refine GE_slots (L' := []) trivial ?_
        refine GE_plain (.st 0 .nil) rfl ?_
        refine GT_st rfl rfl rfl rfl (V_assign rfl rfl) ?_
        refine GT_nil ?_
        refine GE_ret Tryz.func32 rfl (fun w hw => ⟨?_, hw.nil⟩)
        first | (simp [ptsCheck, *]; done) | (simp only [ptsCheck]; rw [if_pos (by omega)]) | (simp only [ptsCheck]; rw [if_neg (by omega), hn]; rfl) | (simp only [ptsCheck]; rw [List.take_of_length_le (by omega)] at hall; rw [if_neg (by omega), hall]; rfl)
    · exact ⟨Nat.zero_le _, by simp⟩
end Go.Proofs.YtogljfjbilndnaaGreatDoor.Lathe
/- The lathe's own search, in plain Lean: its edges, its rounds. -/
namespace Go.Proofs.YtogljfjbilndnaaGreatDoor.Lathe
open Go.Sx

structure Stp where
  rule : Int
  samp : Int
instance : Inhabited Stp := ⟨⟨0, 0⟩⟩
def eStp (s : Stp) : List Value := [I s.rule, I s.samp]
theorem eStp_len (s : Stp) : (eStp s).length = 2 := rfl
theorem eStp_one : ∀ x, ∀ u ∈ eStp x, u.oneCell' = true := by intro x u hu; simp only [eStp, List.mem_cons, List.not_mem_nil, or_false] at hu; rcases hu with rfl | rfl <;> rfl

def StpWf (s : Stp) : Prop := I64 s.rule ∧ I64 s.samp

structure Edge where
  rule : Int
  samp : Int
  frm : Int
  to : Int
  wt : Int
instance : Inhabited Edge := ⟨⟨0, 0, 0, 0, 0⟩⟩
def eEdge (x : Edge) : List Value := [I x.rule, I x.samp, I x.frm, I x.to, I x.wt]
theorem eEdge_len (s : Edge) : (eEdge s).length = 5 := rfl
theorem eEdge_one : ∀ x, ∀ u ∈ eEdge x, u.oneCell' = true := by intro x u hu; simp only [eEdge, List.mem_cons, List.not_mem_nil, or_false] at hu; rcases hu with rfl | rfl | rfl | rfl | rfl <;> rfl
def Edge.stp (x : Edge) : Stp := ⟨x.rule, x.samp⟩

/-- what a rule says at a sample -/
def edgeOf (b : Blank) (l : List Pt) (rule samp : Int) : Edge × Bool :=
  if samp < 0 ∨ (l.length : Int) ≤ samp then (⟨rule, samp, samp, samp, 0⟩, false)
  else if rule = 1 then (⟨rule, samp, -1, samp, b.rim - (l.getD samp.toNat default).out⟩, true)
  else if rule = 2 then (⟨rule, samp, samp, -1, (l.getD samp.toNat default).inn - b.core⟩, true)
  else if rule = 3 then (⟨rule, samp, samp - 1, samp, 0 - b.slow⟩, decide (0 < samp))
  else if rule = 4 then (⟨rule, samp, samp, samp - 1, b.fast⟩, decide (0 < samp))
  else if rule = 5 then
    if samp < b.per then (⟨rule, samp, samp, samp, 0⟩, false)
    else (⟨rule, samp, samp - b.per, samp, (l.getD (samp - b.per).toNat default).inn - (l.getD samp.toNat default).out - b.land⟩, true)
  else (⟨rule, samp, samp, samp, 0⟩, false)

def optE (x : Edge × Bool) : List Edge := if x.2 then [x.1] else []
/-- the edges, in the order in which they are yielded -/
def inward (b : Blank) (l : List Pt) (i : Nat) : List Edge := optE (edgeOf b l 3 i) ++ optE (edgeOf b l 5 i)
def edgeList (b : Blank) (l : List Pt) : List Edge := (List.range l.length).flatMap (inward b l) ++ (List.range (l.length - 1)).reverse.flatMap fun i : Nat => optE (edgeOf b l 4 ((i : Int) + 1))

structure Srch where
  r : List Int
  last : List Edge
  ch : Int
def relax (s : Srch) (x : Edge) : Srch :=
  if s.r.getD x.to.toNat default ≤ s.r.getD x.frm.toNat default + x.wt then s
  else ⟨s.r.set x.to.toNat (s.r.getD x.frm.toNat default + x.wt), s.last.set x.to.toNat x, x.to⟩
def round (b : Blank) (l : List Pt) (r : List Int) (last : List Edge) : Srch := (edgeList b l).foldl relax ⟨r, last, -1⟩
/-- so many rounds, till nothing changes -/
def rounds (b : Blank) (l : List Pt) : Nat → List Int → List Edge → Srch
  | 0, r, last => ⟨r, last, -1⟩
  | f + 1, r, last => let s := round b l r last; if s.ch = -1 then s else if f = 0 then s else rounds b l f s.r s.last
def rimEdges (b : Blank) (l : List Pt) : List Edge := (List.range l.length).map fun i : Nat => (edgeOf b l 1 i).1
def settled (b : Blank) (l : List Pt) : Srch := rounds b l (l.length + 2) (start b l) (rimEdges b l)

/-- the step back along the last edges -/
def par (last : List Edge) (v : Int) : Int := (last.getD v.toNat default).frm
def back (last : List Edge) : Nat → Int → Int
  | 0, v => v
  | k + 1, v => par last (back last k v)
end Go.Proofs.YtogljfjbilndnaaGreatDoor.Lathe
/- lathe: edges, ways and circles, walked -/
namespace Go.Proofs.YtogljfjbilndnaaGreatDoor.Lathe
open Go.Sx Go.Proofs

/-- block bs is the side of a groove on a blank -/
def sideCells (b : Blank) (A : Option Addr) (l : List Pt) (c : Nat) : List Value := [I b.per, I b.rim, I b.core, I b.land, I b.slow, I b.fast, .slice A l.length c, I b.per]
def SideAt (w : World) (bs : Nat) (b : Blank) (A : Option Addr) (l : List Pt) (c : Nat) : Prop := w.heap[bs]? = some (blk (sideCells b A l c) 102)
theorem SideAt.cell {w : World} {bs c o : Nat} {b : Blank} {A : Option Addr} {l : List Pt} {v : Value} (h : SideAt w bs b A l c) (hv : (sideCells b A l c)[o]? = some v) : w.cell? ⟨bs, o, none⟩ = some v := by
  unfold SideAt at h
  simp [World.cell?, h, hv]
theorem SideAt.lt {w : World} {bs c : Nat} {b : Blank} {A : Option Addr} {l : List Pt} (h : SideAt w bs b A l c) : bs < w.heap.size := by
  unfold SideAt at h
  exact (Array.getElem?_eq_some_iff.1 h).1
theorem SideAt.sh {w0 w : World} {bs c : Nat} {b : Blank} {A : Option Addr} {l : List Pt} {H : Items} (h : SideAt w0 bs b A l c) (m : SH w0 none' H w) : SideAt w bs b A l c := by
  unfold SideAt
  rw [m.old bs h.lt (fun e => e)]; exact h

set_option maxRecDepth 10000 in
theorem C_lathe_edge {b : Blank} {A : Option Addr} {l : List Pt} {c bs : Nat} {rule samp : Int} {w : World} (hs : SideAt w bs b A l c) (hp : RdL w 2 ePt A l) (hb : b.ok = true) (hl : l.length ≤ 4096) (hpt : l.all ptOk = true) :
    Con0 Tryz.prog 23 [ptr bs 0, I rule, I samp] w (.tuple #[.agg (eEdge (edgeOf b l rule samp).1).toArray, .bool (edgeOf b l rule samp).2]) := by
  rw [Blank.ok_iff] at hb
  have hpt' : ∀ q, q < l.length → (-4194304 ≤ (l.getD q default).inn ∧ (l.getD q default).inn ≤ 4194304) ∧ (-4194304 ≤ (l.getD q default).out ∧ (l.getD q default).out ≤ 4194304) := by
    intro q hq
    have := List.all_eq_true.1 hpt _ (List.getElem_mem hq)
    simpa [ptOk, betw_iff, List.getD, hq] using this
  refine Ret_of (vs := [_, _, _]) hm none' Tryz.func23 rfl Tryz.ntmps23 rfl ?_
  dsimp only [slotsOf]
  refine GE_seq ?_
  refine GE_plain (.ld 0 [] (.st 1 .nil)) rfl ?_
  refine GT_alloc rfl rfl rfl rfl rfl zc_72 (fun _ => GR_nil) (fun b6 => ?_)
  refine GT_st rfl rfl rfl rfl (V_assign rfl rfl) ?_
  refine GT_nil ?_
  refine GE_seq ?_
  refine GE_plain (.st 0 (.st 1 (.st 2 (.st 3 (.st 4 (.st 5 (.ld 6 [] (.ld 7 [] .nil)))))))) rfl ?_
  refine GT_st rfl rfl rfl rfl (V_move rfl rfl) ?_
  refine GT_st rfl rfl rfl rfl (V_move rfl rfl) ?_
  refine GT_st rfl rfl rfl rfl (V_build (vs := [_, _]) rfl rfl zc_70 pl_70 sa_70 rfl) ?_
  refine GT_st rfl rfl rfl rfl (V_move rfl rfl) ?_
  refine GT_st rfl rfl rfl rfl (V_move rfl rfl) ?_
  refine GT_st rfl rfl rfl rfl (V_build (vs := [_, _, _, _, _]) rfl rfl zc_72 pl_72 sa_72 rfl) ?_
  refine GT_alloc rfl rfl rfl rfl rfl zc_72 (fun _ => GR_nil) (fun b8 => ?_)
  refine GT_store (vs := [_, _, _, _, _]) (l' := [_, _, _, _, _]) rfl rfl rfl rfl rfl rfl rfl sz_72 rfl rfl (Nat.le_of_ble_eq_true rfl) rfl (GR_nil) ?_
  refine GT_nil ?_
  refine GE_seq ?_
  refine GE_seq ?_
  refine GE_slots (L' := [(0, _), (1, _), (2, _), (6, _), (8, _)]) ⟨rfl, rfl, rfl, rfl, rfl, trivial⟩ ?_
  refine GE_plain (.st 0 (.st 1 (.st 2 (.st 3 (.st 4 (.st 5 (.st 6 (.st 7 (.st 8 (.st 9 (.st 10 .nil))))))))))) rfl ?_
  refine GT_st rfl rfl rfl rfl (V_move rfl rfl) ?_
  refine GT_st rfl rfl rfl rfl (V_lss rfl rfl rfl) ?_
  refine GT_st rfl rfl rfl rfl (V_move rfl rfl) ?_
  first | refine GT_splitNot (d := 18) rfl (fun h1 => ?_) (fun h1 => ?_) | refine GT_split (d := 18) rfl (fun h1 => ?_) (fun h1 => ?_) | refine GT_splitNotB (d := 18) rfl (fun h1 => ?_) (fun h1 => ?_) | refine GT_splitB (d := 18) rfl (fun h1 => ?_) (fun h1 => ?_)
  · skip
    refine GT_skip rfl rfl rfl rfl rfl (by decide) rfl rfl ?_
    refine GT_skip rfl rfl rfl rfl rfl (by decide) rfl rfl ?_
    refine GT_skip rfl rfl rfl rfl rfl (by decide) rfl rfl ?_
    refine GT_skip rfl rfl rfl rfl rfl (by decide) rfl rfl ?_
    refine GT_skip rfl rfl rfl rfl rfl (by decide) rfl rfl ?_
    refine GT_skip rfl rfl rfl rfl rfl (by decide) rfl rfl ?_
    refine GT_skip rfl rfl rfl rfl rfl (by decide) rfl rfl ?_
    refine GT_st rfl rfl rfl rfl (V_pick_t rfl rfl rfl) ?_
    refine GT_nil ?_
    refine GE_cond_t rfl ?_
    refine GE_seq ?_
    refine GE_slots (L' := [(6, _), (8, _)]) ⟨rfl, rfl, trivial⟩ ?_
    refine GE_plain (.st 0 (.ld 1 [] (.st 2 .nil))) rfl ?_
    refine GT_st rfl rfl rfl rfl (V_loadN (vs := [_, _, _, _, _]) rfl rfl ag_72 sz_72 rfl (CellsAt.item rfl)) ?_
    refine GT_store (vs := [_, _, _, _, _]) (l' := [_, _, _, _, _]) rfl rfl rfl rfl rfl rfl rfl sz_72 rfl rfl (Nat.le_of_ble_eq_true rfl) rfl (GR_nil) ?_
    refine GT_st rfl rfl rfl rfl (V_assign rfl rfl) ?_
    refine GT_nil ?_
    refine GE_ret Tryz.func23 ⟨_, _, ⟨_, rfl, fun w m => run_loadVar_agg (vs := [_, _, _, _, _]) ag_72 sz_72 rfl (fun j v hj => CellsAt.item rfl j v hj w m)⟩, rfl, rfl⟩ (fun w hw => ⟨?_, hw.nil⟩)
    unfold edgeOf; (repeat' split) <;> first | rfl | omega
  · skip
    refine GT_st_g rfl rfl rfl rfl rfl rfl rfl (V_move rfl rfl) ?_
    refine GT_st_g rfl rfl rfl rfl rfl rfl rfl (V_move rfl rfl) ?_
    first | refine GT_st_g rfl rfl rfl rfl rfl rfl rfl (V_nilCheck rfl rfl) ?_ | refine GT_st_g rfl rfl rfl rfl rfl rfl rfl (V_nilCheck_func rfl rfl) ?_ | refine GT_st_g rfl rfl rfl rfl rfl rfl rfl (V_nilCheck_yield rfl rfl) ?_
    first | refine GT_st_g rfl rfl rfl rfl rfl rfl rfl (V_field rfl rfl fo_102_1) ?_ | refine GT_st_g rfl rfl rfl rfl rfl rfl rfl (V_fieldA rfl rfl fo_102_1) ?_
    first | refine GT_st_g rfl rfl rfl rfl rfl rfl rfl (V_load rfl rfl ag_30 (CellAt.item rfl)) ?_ | refine GT_st_g rfl rfl rfl rfl rfl rfl rfl (V_load rfl rfl ag_30 (CellAt.old (hs.cell rfl) (noM _))) ?_
    refine GT_st_g rfl rfl rfl rfl rfl rfl rfl (V_len rfl Tryz.underlying30 rfl) ?_
    refine GT_st_g rfl rfl rfl rfl rfl rfl rfl (V_geq rfl rfl rfl) ?_
    refine GT_st rfl rfl rfl rfl (V_pick_f rfl rfl rfl) ?_
    refine GT_nil ?_
    first | refine GE_condNot rfl (fun h2 => ?_) (fun h2 => ?_) | refine GE_cond rfl (fun h2 => ?_) (fun h2 => ?_) | refine GE_condNotB rfl (fun h2 => ?_) (fun h2 => ?_) | refine GE_condB rfl (fun h2 => ?_) (fun h2 => ?_)
    · skip
      refine GE_seq ?_
      refine GE_slots (L' := [(6, _), (8, _)]) ⟨rfl, rfl, trivial⟩ ?_
      refine GE_plain (.st 0 (.ld 1 [] (.st 2 .nil))) rfl ?_
      refine GT_st rfl rfl rfl rfl (V_loadN (vs := [_, _, _, _, _]) rfl rfl ag_72 sz_72 rfl (CellsAt.item rfl)) ?_
      refine GT_store (vs := [_, _, _, _, _]) (l' := [_, _, _, _, _]) rfl rfl rfl rfl rfl rfl rfl sz_72 rfl rfl (Nat.le_of_ble_eq_true rfl) rfl (GR_nil) ?_
      refine GT_st rfl rfl rfl rfl (V_assign rfl rfl) ?_
      refine GT_nil ?_
      refine GE_ret Tryz.func23 ⟨_, _, ⟨_, rfl, fun w m => run_loadVar_agg (vs := [_, _, _, _, _]) ag_72 sz_72 rfl (fun j v hj => CellsAt.item rfl j v hj w m)⟩, rfl, rfl⟩ (fun w hw => ⟨?_, hw.nil⟩)
      unfold edgeOf; (repeat' split) <;> first | rfl | omega
    · have hk1 := hpt' samp.toNat (by omega)
      refine GE_skip ?_
      refine GE_seq ?_
      refine GE_slots (L' := [(0, _), (1, _), (2, _), (6, _), (8, _)]) ⟨rfl, rfl, rfl, rfl, rfl, trivial⟩ ?_
      refine GE_plain (.st 0 (.st 1 (.st 2 (.st 3 (.st 4 (.st 5 (.st 6 (.ld 7 [] (.ld 8 [] .nil))))))))) rfl ?_
      refine GT_st rfl rfl rfl rfl (V_move rfl rfl) ?_
      first | refine GT_st rfl rfl rfl rfl (V_nilCheck rfl rfl) ?_ | refine GT_st rfl rfl rfl rfl (V_nilCheck_func rfl rfl) ?_ | refine GT_st rfl rfl rfl rfl (V_nilCheck_yield rfl rfl) ?_
      first | refine GT_st rfl rfl rfl rfl (V_field rfl rfl fo_102_1) ?_ | refine GT_st rfl rfl rfl rfl (V_fieldA rfl rfl fo_102_1) ?_
      first | refine GT_st rfl rfl rfl rfl (V_load rfl rfl ag_30 (CellAt.item rfl)) ?_ | refine GT_st rfl rfl rfl rfl (V_load rfl rfl ag_30 (CellAt.old (hs.cell rfl) (noM _))) ?_
      refine GT_st rfl rfl rfl rfl (V_move rfl rfl) ?_
      refine GT_st rfl rfl rfl rfl (V_index rfl rfl rfl Tryz.underlying30 sz_53 (k := samp.toNat) (by omega) (by omega) (hp.isSome (k := samp.toNat) (by omega))) ?_
      refine GT_st rfl rfl rfl rfl (V_loadN (vs := [_, _]) rfl rfl ag_53 sz_53 rfl (hp.ats noM (by omega))) ?_
      refine GT_alloc rfl rfl rfl rfl rfl zc_53 (fun _ => GR_nil) (fun b9 => ?_)
      refine GT_store (vs := [_, _]) (l' := [_, _]) rfl rfl rfl rfl rfl rfl rfl sz_53 rfl rfl (Nat.le_of_ble_eq_true rfl) rfl (GR_nil) ?_
      refine GT_nil ?_
      refine GE_seq ?_
      refine GE_seq ?_
      refine GE_slots (L' := [(0, _), (1, _), (2, _), (6, _), (8, _), (9, _)]) ⟨rfl, rfl, rfl, rfl, rfl, rfl, trivial⟩ ?_
      refine GE_plain (.st 0 .nil) rfl ?_
      refine GT_st rfl rfl rfl rfl (V_move rfl rfl) ?_
      refine GT_nil ?_
      refine GE_block ?_
      refine GE_seq ?_
      refine GE_plain (.st 0 (.st 1 .nil)) rfl ?_
      refine GT_st rfl rfl rfl rfl (V_eql rfl rfl rfl) ?_
      refine GT_st rfl rfl rfl rfl (V_assign rfl rfl) ?_
      refine GT_nil ?_
      first | refine GE_condNot rfl (fun h1 => ?_) (fun h1 => ?_) | refine GE_cond rfl (fun h1 => ?_) (fun h1 => ?_) | refine GE_condNotB rfl (fun h1 => ?_) (fun h1 => ?_) | refine GE_condB rfl (fun h1 => ?_) (fun h1 => ?_)
      · skip
        refine GE_slots (L' := [(0, _), (6, _), (8, _), (9, _)]) ⟨rfl, rfl, rfl, rfl, trivial⟩ ?_
        refine GE_drawn (.st 0 (.st 1 (.st 2 (.st 3 (.st 4 (.st 5 (.st 6 (.st 7 (.st 8 (.ld 9 [0, 1, 2, 3, 4, 5, 6, 7] (.st 10 (.ld 11 [] .nil)))))))))))) [9, 11] (by decide +kernel) ?_
        refine GT_st rfl rfl rfl rfl (V_move rfl rfl) ?_
        first | refine GT_st rfl rfl rfl rfl (V_nilCheck rfl rfl) ?_ | refine GT_st rfl rfl rfl rfl (V_nilCheck_func rfl rfl) ?_ | refine GT_st rfl rfl rfl rfl (V_nilCheck_yield rfl rfl) ?_
        first | refine GT_st rfl rfl rfl rfl (V_field rfl rfl fo_102_0) ?_ | refine GT_st rfl rfl rfl rfl (V_fieldA rfl rfl fo_102_0) ?_
        first | refine GT_st rfl rfl rfl rfl (V_field rfl rfl fo_28_1) ?_ | refine GT_st rfl rfl rfl rfl (V_fieldA rfl rfl fo_28_1) ?_
        first | refine GT_st rfl rfl rfl rfl (V_load rfl rfl ag_2 (CellAt.item rfl)) ?_ | refine GT_st rfl rfl rfl rfl (V_load rfl rfl ag_2 (CellAt.old (hs.cell rfl) (noM _))) ?_
        first | refine GT_st rfl rfl rfl rfl (V_field rfl rfl fo_53_1) ?_ | refine GT_st rfl rfl rfl rfl (V_fieldA rfl rfl fo_53_1) ?_
        first | refine GT_st rfl rfl rfl rfl (V_load rfl rfl ag_2 (CellAt.item rfl)) ?_ | refine GT_st rfl rfl rfl rfl (V_load rfl rfl ag_2 (CellAt.old (hs.cell rfl) (noM _))) ?_
        refine GT_st rfl rfl rfl rfl (V_sub rfl rfl rfl (wrap_i64 (by omega))) ?_
        first | refine GT_st rfl rfl rfl rfl (V_field rfl rfl fo_72_1) ?_ | refine GT_st rfl rfl rfl rfl (V_fieldA rfl rfl fo_72_1) ?_
        refine GT_store (vs := [_]) (l' := [_, _, _, _, _]) rfl rfl rfl rfl rfl rfl rfl sz_3 rfl rfl (Nat.le_of_ble_eq_true rfl) rfl (GR_cons rfl rfl rfl rfl (V_move rfl rfl) (GR_cons rfl rfl rfl rfl ((by first | exact V_nilCheck rfl rfl | exact V_nilCheck_func rfl rfl | exact V_nilCheck_yield rfl rfl)) (GR_cons rfl rfl rfl rfl ((by first | exact V_field rfl rfl fo_102_0 | exact V_fieldA rfl rfl fo_102_0)) (GR_cons rfl rfl rfl rfl ((by first | exact V_field rfl rfl fo_28_1 | exact V_fieldA rfl rfl fo_28_1)) (GR_cons rfl rfl rfl rfl ((by first | exact V_load rfl rfl ag_2 (CellAt.item rfl) | exact V_load rfl rfl ag_2 (CellAt.old (hs.cell rfl) (noM _)))) (GR_cons rfl rfl rfl rfl ((by first | exact V_field rfl rfl fo_53_1 | exact V_fieldA rfl rfl fo_53_1)) (GR_cons rfl rfl rfl rfl ((by first | exact V_load rfl rfl ag_2 (CellAt.item rfl) | exact V_load rfl rfl ag_2 (CellAt.old (hs.cell rfl) (noM _)))) (GR_cons rfl rfl rfl rfl (V_sub rfl rfl rfl (wrap_i64 (by omega))) (GR_nil))))))))) ?_
        first | refine GT_st rfl rfl rfl rfl (V_field rfl rfl fo_72_3) ?_ | refine GT_st rfl rfl rfl rfl (V_fieldA rfl rfl fo_72_3) ?_
        refine GT_store (vs := [_]) (l' := [_, _, _, _, _]) rfl rfl rfl rfl rfl rfl rfl sz_2 rfl rfl (Nat.le_of_ble_eq_true rfl) rfl (GR_nil) ?_
        refine GT_nil ?_
        refine GE_inBlock ?_
        refine GE_seq ?_
        refine GE_slots (L' := [(6, _), (8, _)]) ⟨rfl, rfl, trivial⟩ ?_
        refine GE_plain (.st 0 (.ld 1 [] (.st 2 .nil))) rfl ?_
        refine GT_st rfl rfl rfl rfl (V_loadN (vs := [_, _, _, _, _]) rfl rfl ag_72 sz_72 rfl (CellsAt.item rfl)) ?_
        refine GT_store (vs := [_, _, _, _, _]) (l' := [_, _, _, _, _]) rfl rfl rfl rfl rfl rfl rfl sz_72 rfl rfl (Nat.le_of_ble_eq_true rfl) rfl (GR_nil) ?_
        refine GT_st rfl rfl rfl rfl (V_assign rfl rfl) ?_
        refine GT_nil ?_
        refine GE_ret Tryz.func23 ⟨_, _, ⟨_, rfl, fun w m => run_loadVar_agg (vs := [_, _, _, _, _]) ag_72 sz_72 rfl (fun j v hj => CellsAt.item rfl j v hj w m)⟩, rfl, rfl⟩ (fun w hw => ⟨?_, hw.nil⟩)
        unfold edgeOf; (repeat' split) <;> first | rfl | omega
      · skip
        refine GE_seq ?_
        refine GE_plain (.st 0 (.st 1 .nil)) rfl ?_
        refine GT_st rfl rfl rfl rfl (V_eql rfl rfl rfl) ?_
        refine GT_st rfl rfl rfl rfl (V_assign rfl rfl) ?_
        refine GT_nil ?_
        first | refine GE_condNot rfl (fun h2 => ?_) (fun h2 => ?_) | refine GE_cond rfl (fun h2 => ?_) (fun h2 => ?_) | refine GE_condNotB rfl (fun h2 => ?_) (fun h2 => ?_) | refine GE_condB rfl (fun h2 => ?_) (fun h2 => ?_)
        · skip
          refine GE_slots (L' := [(0, _), (6, _), (8, _), (9, _)]) ⟨rfl, rfl, rfl, rfl, trivial⟩ ?_
          refine GE_drawn (.st 0 (.st 1 (.st 2 (.st 3 (.st 4 (.st 5 (.st 6 (.st 7 (.st 8 (.ld 9 [0, 1, 2, 3, 4, 5, 6, 7] (.st 10 (.ld 11 [] .nil)))))))))))) [9, 11] (by decide +kernel) ?_
          first | refine GT_st rfl rfl rfl rfl (V_field rfl rfl fo_53_0) ?_ | refine GT_st rfl rfl rfl rfl (V_fieldA rfl rfl fo_53_0) ?_
          first | refine GT_st rfl rfl rfl rfl (V_load rfl rfl ag_2 (CellAt.item rfl)) ?_ | refine GT_st rfl rfl rfl rfl (V_load rfl rfl ag_2 (CellAt.old (hs.cell rfl) (noM _))) ?_
          refine GT_st rfl rfl rfl rfl (V_move rfl rfl) ?_
          first | refine GT_st rfl rfl rfl rfl (V_nilCheck rfl rfl) ?_ | refine GT_st rfl rfl rfl rfl (V_nilCheck_func rfl rfl) ?_ | refine GT_st rfl rfl rfl rfl (V_nilCheck_yield rfl rfl) ?_
          first | refine GT_st rfl rfl rfl rfl (V_field rfl rfl fo_102_0) ?_ | refine GT_st rfl rfl rfl rfl (V_fieldA rfl rfl fo_102_0) ?_
          first | refine GT_st rfl rfl rfl rfl (V_field rfl rfl fo_28_2) ?_ | refine GT_st rfl rfl rfl rfl (V_fieldA rfl rfl fo_28_2) ?_
          first | refine GT_st rfl rfl rfl rfl (V_load rfl rfl ag_2 (CellAt.item rfl)) ?_ | refine GT_st rfl rfl rfl rfl (V_load rfl rfl ag_2 (CellAt.old (hs.cell rfl) (noM _))) ?_
          refine GT_st rfl rfl rfl rfl (V_sub rfl rfl rfl (wrap_i64 (by omega))) ?_
          first | refine GT_st rfl rfl rfl rfl (V_field rfl rfl fo_72_2) ?_ | refine GT_st rfl rfl rfl rfl (V_fieldA rfl rfl fo_72_2) ?_
          refine GT_store (vs := [_]) (l' := [_, _, _, _, _]) rfl rfl rfl rfl rfl rfl rfl sz_3 rfl rfl (Nat.le_of_ble_eq_true rfl) rfl (GR_cons rfl rfl rfl rfl ((by first | exact V_field rfl rfl fo_53_0 | exact V_fieldA rfl rfl fo_53_0)) (GR_cons rfl rfl rfl rfl ((by first | exact V_load rfl rfl ag_2 (CellAt.item rfl) | exact V_load rfl rfl ag_2 (CellAt.old (hs.cell rfl) (noM _)))) (GR_cons rfl rfl rfl rfl (V_move rfl rfl) (GR_cons rfl rfl rfl rfl ((by first | exact V_nilCheck rfl rfl | exact V_nilCheck_func rfl rfl | exact V_nilCheck_yield rfl rfl)) (GR_cons rfl rfl rfl rfl ((by first | exact V_field rfl rfl fo_102_0 | exact V_fieldA rfl rfl fo_102_0)) (GR_cons rfl rfl rfl rfl ((by first | exact V_field rfl rfl fo_28_2 | exact V_fieldA rfl rfl fo_28_2)) (GR_cons rfl rfl rfl rfl ((by first | exact V_load rfl rfl ag_2 (CellAt.item rfl) | exact V_load rfl rfl ag_2 (CellAt.old (hs.cell rfl) (noM _)))) (GR_cons rfl rfl rfl rfl (V_sub rfl rfl rfl (wrap_i64 (by omega))) (GR_nil))))))))) ?_
          first | refine GT_st rfl rfl rfl rfl (V_field rfl rfl fo_72_3) ?_ | refine GT_st rfl rfl rfl rfl (V_fieldA rfl rfl fo_72_3) ?_
          refine GT_store (vs := [_]) (l' := [_, _, _, _, _]) rfl rfl rfl rfl rfl rfl rfl sz_2 rfl rfl (Nat.le_of_ble_eq_true rfl) rfl (GR_nil) ?_
          refine GT_nil ?_
          refine GE_inBlock ?_
          refine GE_seq ?_
          refine GE_slots (L' := [(6, _), (8, _)]) ⟨rfl, rfl, trivial⟩ ?_
          refine GE_plain (.st 0 (.ld 1 [] (.st 2 .nil))) rfl ?_
          refine GT_st rfl rfl rfl rfl (V_loadN (vs := [_, _, _, _, _]) rfl rfl ag_72 sz_72 rfl (CellsAt.item rfl)) ?_
          refine GT_store (vs := [_, _, _, _, _]) (l' := [_, _, _, _, _]) rfl rfl rfl rfl rfl rfl rfl sz_72 rfl rfl (Nat.le_of_ble_eq_true rfl) rfl (GR_nil) ?_
          refine GT_st rfl rfl rfl rfl (V_assign rfl rfl) ?_
          refine GT_nil ?_
          refine GE_ret Tryz.func23 ⟨_, _, ⟨_, rfl, fun w m => run_loadVar_agg (vs := [_, _, _, _, _]) ag_72 sz_72 rfl (fun j v hj => CellsAt.item rfl j v hj w m)⟩, rfl, rfl⟩ (fun w hw => ⟨?_, hw.nil⟩)
          unfold edgeOf; (repeat' split) <;> first | rfl | omega
        · skip
          refine GE_seq ?_
          refine GE_slots (L' := [(0, _), (2, _), (6, _), (8, _), (9, _), (35, _)]) ⟨rfl, rfl, rfl, rfl, rfl, rfl, trivial⟩ ?_
          refine GE_plain (.st 0 (.st 1 .nil)) rfl ?_
          refine GT_st rfl rfl rfl rfl (V_eql rfl rfl rfl) ?_
          refine GT_st rfl rfl rfl rfl (V_assign rfl rfl) ?_
          refine GT_nil ?_
          first | refine GE_condNot rfl (fun h3 => ?_) (fun h3 => ?_) | refine GE_cond rfl (fun h3 => ?_) (fun h3 => ?_) | refine GE_condNotB rfl (fun h3 => ?_) (fun h3 => ?_) | refine GE_condB rfl (fun h3 => ?_) (fun h3 => ?_)
          · skip
            refine GE_seq ?_
            refine GE_slots (L' := [(0, _), (2, _), (6, _), (8, _)]) ⟨rfl, rfl, rfl, rfl, trivial⟩ ?_
            refine GE_drawn (.st 0 (.st 1 (.st 2 (.st 3 (.st 4 (.st 5 (.st 6 (.st 7 (.st 8 (.ld 9 [2, 3, 4, 5, 6, 7] (.st 10 (.ld 11 [] .nil)))))))))))) [9, 11] (by decide +kernel) ?_
            refine GT_st rfl rfl rfl rfl (V_move rfl rfl) ?_
            refine GT_st rfl rfl rfl rfl (V_sub rfl rfl rfl (wrap_i64 (by omega))) ?_
            refine GT_st rfl rfl rfl rfl (V_move rfl rfl) ?_
            first | refine GT_st rfl rfl rfl rfl (V_nilCheck rfl rfl) ?_ | refine GT_st rfl rfl rfl rfl (V_nilCheck_func rfl rfl) ?_ | refine GT_st rfl rfl rfl rfl (V_nilCheck_yield rfl rfl) ?_
            first | refine GT_st rfl rfl rfl rfl (V_field rfl rfl fo_102_0) ?_ | refine GT_st rfl rfl rfl rfl (V_fieldA rfl rfl fo_102_0) ?_
            first | refine GT_st rfl rfl rfl rfl (V_field rfl rfl fo_28_4) ?_ | refine GT_st rfl rfl rfl rfl (V_fieldA rfl rfl fo_28_4) ?_
            first | refine GT_st rfl rfl rfl rfl (V_load rfl rfl ag_2 (CellAt.item rfl)) ?_ | refine GT_st rfl rfl rfl rfl (V_load rfl rfl ag_2 (CellAt.old (hs.cell rfl) (noM _))) ?_
            refine GT_st rfl rfl rfl rfl (V_neg rfl rfl (wrap_i64 (by omega))) ?_
            first | refine GT_st rfl rfl rfl rfl (V_field rfl rfl fo_72_1) ?_ | refine GT_st rfl rfl rfl rfl (V_fieldA rfl rfl fo_72_1) ?_
            refine GT_store (vs := [_]) (l' := [_, _, _, _, _]) rfl rfl rfl rfl rfl rfl rfl sz_3 rfl rfl (Nat.le_of_ble_eq_true rfl) rfl (GR_cons rfl rfl rfl rfl (V_move rfl rfl) (GR_cons rfl rfl rfl rfl ((by first | exact V_nilCheck rfl rfl | exact V_nilCheck_func rfl rfl | exact V_nilCheck_yield rfl rfl)) (GR_cons rfl rfl rfl rfl ((by first | exact V_field rfl rfl fo_102_0 | exact V_fieldA rfl rfl fo_102_0)) (GR_cons rfl rfl rfl rfl ((by first | exact V_field rfl rfl fo_28_4 | exact V_fieldA rfl rfl fo_28_4)) (GR_cons rfl rfl rfl rfl ((by first | exact V_load rfl rfl ag_2 (CellAt.item rfl) | exact V_load rfl rfl ag_2 (CellAt.old (hs.cell rfl) (noM _)))) (GR_cons rfl rfl rfl rfl (V_neg rfl rfl (wrap_i64 (by omega))) (GR_nil))))))) ?_
            first | refine GT_st rfl rfl rfl rfl (V_field rfl rfl fo_72_3) ?_ | refine GT_st rfl rfl rfl rfl (V_fieldA rfl rfl fo_72_3) ?_
            refine GT_store (vs := [_]) (l' := [_, _, _, _, _]) rfl rfl rfl rfl rfl rfl rfl sz_2 rfl rfl (Nat.le_of_ble_eq_true rfl) rfl (GR_nil) ?_
            refine GT_nil ?_
            refine GE_seq ?_
            refine GE_slots (L' := [(2, _), (6, _), (8, _)]) ⟨rfl, rfl, rfl, trivial⟩ ?_
            refine GE_plain (.st 0 (.st 1 (.st 2 (.ld 3 [] (.st 4 .nil))))) rfl ?_
            refine GT_st rfl rfl rfl rfl (V_loadN (vs := [_, _, _, _, _]) rfl rfl ag_72 sz_72 rfl (CellsAt.item rfl)) ?_
            refine GT_st rfl rfl rfl rfl (V_move rfl rfl) ?_
            refine GT_st rfl rfl rfl rfl (V_gtr rfl rfl rfl) ?_
            refine GT_store (vs := [_, _, _, _, _]) (l' := [_, _, _, _, _]) rfl rfl rfl rfl rfl rfl rfl sz_72 rfl rfl (Nat.le_of_ble_eq_true rfl) rfl (GR_nil) ?_
            refine GT_st rfl rfl rfl rfl (V_assign rfl rfl) ?_
            refine GT_nil ?_
            refine GE_ret Tryz.func23 ⟨_, _, ⟨_, rfl, fun w m => run_loadVar_agg (vs := [_, _, _, _, _]) ag_72 sz_72 rfl (fun j v hj => CellsAt.item rfl j v hj w m)⟩, rfl, rfl⟩ (fun w hw => ⟨?_, hw.nil⟩)
            unfold edgeOf; (repeat' split) <;> first | rfl | omega
          · skip
            refine GE_seq ?_
            refine GE_plain (.st 0 (.st 1 .nil)) rfl ?_
            refine GT_st rfl rfl rfl rfl (V_eql rfl rfl rfl) ?_
            refine GT_st rfl rfl rfl rfl (V_assign rfl rfl) ?_
            refine GT_nil ?_
            first | refine GE_condNot rfl (fun h4 => ?_) (fun h4 => ?_) | refine GE_cond rfl (fun h4 => ?_) (fun h4 => ?_) | refine GE_condNotB rfl (fun h4 => ?_) (fun h4 => ?_) | refine GE_condB rfl (fun h4 => ?_) (fun h4 => ?_)
            · skip
              refine GE_seq ?_
              refine GE_slots (L' := [(0, _), (2, _), (6, _), (8, _)]) ⟨rfl, rfl, rfl, rfl, trivial⟩ ?_
              refine GE_drawn (.st 0 (.st 1 (.st 2 (.st 3 (.st 4 (.st 5 (.st 6 (.st 7 (.ld 8 [2, 3, 4, 5, 6] (.st 9 (.ld 10 [] .nil))))))))))) [8, 10] (by decide +kernel) ?_
              refine GT_st rfl rfl rfl rfl (V_move rfl rfl) ?_
              refine GT_st rfl rfl rfl rfl (V_sub rfl rfl rfl (wrap_i64 (by omega))) ?_
              refine GT_st rfl rfl rfl rfl (V_move rfl rfl) ?_
              first | refine GT_st rfl rfl rfl rfl (V_nilCheck rfl rfl) ?_ | refine GT_st rfl rfl rfl rfl (V_nilCheck_func rfl rfl) ?_ | refine GT_st rfl rfl rfl rfl (V_nilCheck_yield rfl rfl) ?_
              first | refine GT_st rfl rfl rfl rfl (V_field rfl rfl fo_102_0) ?_ | refine GT_st rfl rfl rfl rfl (V_fieldA rfl rfl fo_102_0) ?_
              first | refine GT_st rfl rfl rfl rfl (V_field rfl rfl fo_28_5) ?_ | refine GT_st rfl rfl rfl rfl (V_fieldA rfl rfl fo_28_5) ?_
              first | refine GT_st rfl rfl rfl rfl (V_load rfl rfl ag_2 (CellAt.item rfl)) ?_ | refine GT_st rfl rfl rfl rfl (V_load rfl rfl ag_2 (CellAt.old (hs.cell rfl) (noM _))) ?_
              first | refine GT_st rfl rfl rfl rfl (V_field rfl rfl fo_72_2) ?_ | refine GT_st rfl rfl rfl rfl (V_fieldA rfl rfl fo_72_2) ?_
              refine GT_store (vs := [_]) (l' := [_, _, _, _, _]) rfl rfl rfl rfl rfl rfl rfl sz_3 rfl rfl (Nat.le_of_ble_eq_true rfl) rfl (GR_cons rfl rfl rfl rfl (V_move rfl rfl) (GR_cons rfl rfl rfl rfl ((by first | exact V_nilCheck rfl rfl | exact V_nilCheck_func rfl rfl | exact V_nilCheck_yield rfl rfl)) (GR_cons rfl rfl rfl rfl ((by first | exact V_field rfl rfl fo_102_0 | exact V_fieldA rfl rfl fo_102_0)) (GR_cons rfl rfl rfl rfl ((by first | exact V_field rfl rfl fo_28_5 | exact V_fieldA rfl rfl fo_28_5)) (GR_cons rfl rfl rfl rfl ((by first | exact V_load rfl rfl ag_2 (CellAt.item rfl) | exact V_load rfl rfl ag_2 (CellAt.old (hs.cell rfl) (noM _)))) (GR_nil)))))) ?_
              first | refine GT_st rfl rfl rfl rfl (V_field rfl rfl fo_72_3) ?_ | refine GT_st rfl rfl rfl rfl (V_fieldA rfl rfl fo_72_3) ?_
              refine GT_store (vs := [_]) (l' := [_, _, _, _, _]) rfl rfl rfl rfl rfl rfl rfl sz_2 rfl rfl (Nat.le_of_ble_eq_true rfl) rfl (GR_nil) ?_
              refine GT_nil ?_
              refine GE_seq ?_
              refine GE_slots (L' := [(2, _), (6, _), (8, _)]) ⟨rfl, rfl, rfl, trivial⟩ ?_
              refine GE_plain (.st 0 (.st 1 (.st 2 (.ld 3 [] (.st 4 .nil))))) rfl ?_
              refine GT_st rfl rfl rfl rfl (V_loadN (vs := [_, _, _, _, _]) rfl rfl ag_72 sz_72 rfl (CellsAt.item rfl)) ?_
              refine GT_st rfl rfl rfl rfl (V_move rfl rfl) ?_
              refine GT_st rfl rfl rfl rfl (V_gtr rfl rfl rfl) ?_
              refine GT_store (vs := [_, _, _, _, _]) (l' := [_, _, _, _, _]) rfl rfl rfl rfl rfl rfl rfl sz_72 rfl rfl (Nat.le_of_ble_eq_true rfl) rfl (GR_nil) ?_
              refine GT_st rfl rfl rfl rfl (V_assign rfl rfl) ?_
              refine GT_nil ?_
              refine GE_ret Tryz.func23 ⟨_, _, ⟨_, rfl, fun w m => run_loadVar_agg (vs := [_, _, _, _, _]) ag_72 sz_72 rfl (fun j v hj => CellsAt.item rfl j v hj w m)⟩, rfl, rfl⟩ (fun w hw => ⟨?_, hw.nil⟩)
              unfold edgeOf; (repeat' split) <;> first | rfl | omega
            · skip
              refine GE_seq ?_
              refine GE_slots (L' := [(0, _), (2, _), (6, _), (8, _), (9, _), (35, _)]) ⟨rfl, rfl, rfl, rfl, rfl, rfl, trivial⟩ ?_
              refine GE_plain (.st 0 (.st 1 .nil)) rfl ?_
              refine GT_st rfl rfl rfl rfl (V_eql rfl rfl rfl) ?_
              refine GT_st rfl rfl rfl rfl (V_assign rfl rfl) ?_
              refine GT_nil ?_
              first | refine GE_condNot rfl (fun h5 => ?_) (fun h5 => ?_) | refine GE_cond rfl (fun h5 => ?_) (fun h5 => ?_) | refine GE_condNotB rfl (fun h5 => ?_) (fun h5 => ?_) | refine GE_condB rfl (fun h5 => ?_) (fun h5 => ?_)
              · skip
                refine GE_seq ?_
                refine GE_seq ?_
                refine GE_plain (.st 0 (.st 1 (.st 2 (.st 3 (.st 4 (.st 5 .nil)))))) rfl ?_
                refine GT_st rfl rfl rfl rfl (V_move rfl rfl) ?_
                refine GT_st rfl rfl rfl rfl (V_move rfl rfl) ?_
                first | refine GT_st rfl rfl rfl rfl (V_nilCheck rfl rfl) ?_ | refine GT_st rfl rfl rfl rfl (V_nilCheck_func rfl rfl) ?_ | refine GT_st rfl rfl rfl rfl (V_nilCheck_yield rfl rfl) ?_
                first | refine GT_st rfl rfl rfl rfl (V_field rfl rfl fo_102_2) ?_ | refine GT_st rfl rfl rfl rfl (V_fieldA rfl rfl fo_102_2) ?_
                first | refine GT_st rfl rfl rfl rfl (V_load rfl rfl ag_3 (CellAt.item rfl)) ?_ | refine GT_st rfl rfl rfl rfl (V_load rfl rfl ag_3 (CellAt.old (hs.cell rfl) (noM _))) ?_
                refine GT_st rfl rfl rfl rfl (V_lss rfl rfl rfl) ?_
                refine GT_nil ?_
                first | refine GE_condNot rfl (fun h9 => ?_) (fun h9 => ?_) | refine GE_cond rfl (fun h9 => ?_) (fun h9 => ?_) | refine GE_condNotB rfl (fun h9 => ?_) (fun h9 => ?_) | refine GE_condB rfl (fun h9 => ?_) (fun h9 => ?_)
                · skip
                  refine GE_seq ?_
                  refine GE_slots (L' := [(6, _), (8, _)]) ⟨rfl, rfl, trivial⟩ ?_
                  refine GE_plain (.st 0 (.ld 1 [] (.st 2 .nil))) rfl ?_
                  refine GT_st rfl rfl rfl rfl (V_loadN (vs := [_, _, _, _, _]) rfl rfl ag_72 sz_72 rfl (CellsAt.item rfl)) ?_
                  refine GT_store (vs := [_, _, _, _, _]) (l' := [_, _, _, _, _]) rfl rfl rfl rfl rfl rfl rfl sz_72 rfl rfl (Nat.le_of_ble_eq_true rfl) rfl (GR_nil) ?_
                  refine GT_st rfl rfl rfl rfl (V_assign rfl rfl) ?_
                  refine GT_nil ?_
                  refine GE_ret Tryz.func23 ⟨_, _, ⟨_, rfl, fun w m => run_loadVar_agg (vs := [_, _, _, _, _]) ag_72 sz_72 rfl (fun j v hj => CellsAt.item rfl j v hj w m)⟩, rfl, rfl⟩ (fun w hw => ⟨?_, hw.nil⟩)
                  unfold edgeOf; (repeat' split) <;> first | rfl | omega
                · have hk2 := hpt' (samp - b.per).toNat (by omega)
                  refine GE_skip ?_
                  refine GE_slots (L' := [(0, _), (2, _), (6, _), (8, _), (9, _)]) ⟨rfl, rfl, rfl, rfl, rfl, trivial⟩ ?_
                  refine GE_drawn (.st 0 (.st 1 (.st 2 (.st 3 (.st 4 (.st 5 (.st 6 (.st 7 (.st 8 (.st 9 (.st 10 (.st 11 (.st 12 (.st 13 (.st 14 (.st 15 (.st 16 (.st 17 (.st 18 (.st 19 (.st 20 (.st 21 (.st 22 (.st 23 (.st 24 (.st 25 (.st 26 (.st 27 (.st 28 (.ld 29 [6, 7, 8, 9, 10, 11, 12, 13, 14, 15, 16, 17, 18, 19, 20, 21, 22, 23, 24, 25, 26, 27] (.st 30 (.ld 31 [] .nil)))))))))))))))))))))))))))))))) [29, 31] (by decide +kernel) ?_
                  refine GT_st rfl rfl rfl rfl (V_move rfl rfl) ?_
                  refine GT_st rfl rfl rfl rfl (V_move rfl rfl) ?_
                  first | refine GT_st rfl rfl rfl rfl (V_nilCheck rfl rfl) ?_ | refine GT_st rfl rfl rfl rfl (V_nilCheck_func rfl rfl) ?_ | refine GT_st rfl rfl rfl rfl (V_nilCheck_yield rfl rfl) ?_
                  first | refine GT_st rfl rfl rfl rfl (V_field rfl rfl fo_102_2) ?_ | refine GT_st rfl rfl rfl rfl (V_fieldA rfl rfl fo_102_2) ?_
                  first | refine GT_st rfl rfl rfl rfl (V_load rfl rfl ag_3 (CellAt.item rfl)) ?_ | refine GT_st rfl rfl rfl rfl (V_load rfl rfl ag_3 (CellAt.old (hs.cell rfl) (noM _))) ?_
                  refine GT_st rfl rfl rfl rfl (V_sub rfl rfl rfl (wrap_i64 (by omega))) ?_
                  refine GT_st rfl rfl rfl rfl (V_move rfl rfl) ?_
                  first | refine GT_st rfl rfl rfl rfl (V_nilCheck rfl rfl) ?_ | refine GT_st rfl rfl rfl rfl (V_nilCheck_func rfl rfl) ?_ | refine GT_st rfl rfl rfl rfl (V_nilCheck_yield rfl rfl) ?_
                  first | refine GT_st rfl rfl rfl rfl (V_field rfl rfl fo_102_1) ?_ | refine GT_st rfl rfl rfl rfl (V_fieldA rfl rfl fo_102_1) ?_
                  first | refine GT_st rfl rfl rfl rfl (V_load rfl rfl ag_30 (CellAt.item rfl)) ?_ | refine GT_st rfl rfl rfl rfl (V_load rfl rfl ag_30 (CellAt.old (hs.cell rfl) (noM _))) ?_
                  refine GT_st rfl rfl rfl rfl (V_move rfl rfl) ?_
                  refine GT_st rfl rfl rfl rfl (V_move rfl rfl) ?_
                  first | refine GT_st rfl rfl rfl rfl (V_nilCheck rfl rfl) ?_ | refine GT_st rfl rfl rfl rfl (V_nilCheck_func rfl rfl) ?_ | refine GT_st rfl rfl rfl rfl (V_nilCheck_yield rfl rfl) ?_
                  first | refine GT_st rfl rfl rfl rfl (V_field rfl rfl fo_102_2) ?_ | refine GT_st rfl rfl rfl rfl (V_fieldA rfl rfl fo_102_2) ?_
                  first | refine GT_st rfl rfl rfl rfl (V_load rfl rfl ag_3 (CellAt.item rfl)) ?_ | refine GT_st rfl rfl rfl rfl (V_load rfl rfl ag_3 (CellAt.old (hs.cell rfl) (noM _))) ?_
                  refine GT_st rfl rfl rfl rfl (V_sub rfl rfl rfl (wrap_i64 (by omega))) ?_
                  refine GT_st rfl rfl rfl rfl (V_index rfl rfl rfl Tryz.underlying30 sz_53 (k := (samp - b.per).toNat) (by omega) (by omega) (hp.isSome (k := samp.toNat) (by omega))) ?_
                  first | refine GT_st rfl rfl rfl rfl (V_field rfl rfl fo_53_0) ?_ | refine GT_st rfl rfl rfl rfl (V_fieldA rfl rfl fo_53_0) ?_
                  refine GT_st rfl rfl rfl rfl (V_load rfl rfl ag_2 (hp.at0 noM (by omega) rfl)) ?_
                  first | refine GT_st rfl rfl rfl rfl (V_field rfl rfl fo_53_1) ?_ | refine GT_st rfl rfl rfl rfl (V_fieldA rfl rfl fo_53_1) ?_
                  first | refine GT_st rfl rfl rfl rfl (V_load rfl rfl ag_2 (CellAt.item rfl)) ?_ | refine GT_st rfl rfl rfl rfl (V_load rfl rfl ag_2 (CellAt.old (hs.cell rfl) (noM _))) ?_
                  refine GT_st rfl rfl rfl rfl (V_sub rfl rfl rfl (wrap_i64 (by omega))) ?_
                  refine GT_st rfl rfl rfl rfl (V_move rfl rfl) ?_
                  first | refine GT_st rfl rfl rfl rfl (V_nilCheck rfl rfl) ?_ | refine GT_st rfl rfl rfl rfl (V_nilCheck_func rfl rfl) ?_ | refine GT_st rfl rfl rfl rfl (V_nilCheck_yield rfl rfl) ?_
                  first | refine GT_st rfl rfl rfl rfl (V_field rfl rfl fo_102_0) ?_ | refine GT_st rfl rfl rfl rfl (V_fieldA rfl rfl fo_102_0) ?_
                  first | refine GT_st rfl rfl rfl rfl (V_field rfl rfl fo_28_3) ?_ | refine GT_st rfl rfl rfl rfl (V_fieldA rfl rfl fo_28_3) ?_
                  first | refine GT_st rfl rfl rfl rfl (V_load rfl rfl ag_2 (CellAt.item rfl)) ?_ | refine GT_st rfl rfl rfl rfl (V_load rfl rfl ag_2 (CellAt.old (hs.cell rfl) (noM _))) ?_
                  refine GT_st rfl rfl rfl rfl (V_sub rfl rfl rfl (wrap_i64 (by omega))) ?_
                  first | refine GT_st rfl rfl rfl rfl (V_field rfl rfl fo_72_1) ?_ | refine GT_st rfl rfl rfl rfl (V_fieldA rfl rfl fo_72_1) ?_
                  refine GT_store (vs := [_]) (l' := [_, _, _, _, _]) rfl rfl rfl rfl rfl rfl rfl sz_3 rfl rfl (Nat.le_of_ble_eq_true rfl) rfl (GR_cons rfl rfl rfl rfl (V_move rfl rfl) (GR_cons rfl rfl rfl rfl ((by first | exact V_nilCheck rfl rfl | exact V_nilCheck_func rfl rfl | exact V_nilCheck_yield rfl rfl)) (GR_cons rfl rfl rfl rfl ((by first | exact V_field rfl rfl fo_102_1 | exact V_fieldA rfl rfl fo_102_1)) (GR_cons rfl rfl rfl rfl ((by first | exact V_load rfl rfl ag_30 (CellAt.item rfl) | exact V_load rfl rfl ag_30 (CellAt.old (hs.cell rfl) (noM _)))) (GR_cons rfl rfl rfl rfl (V_move rfl rfl) (GR_cons rfl rfl rfl rfl (V_move rfl rfl) (GR_cons rfl rfl rfl rfl ((by first | exact V_nilCheck rfl rfl | exact V_nilCheck_func rfl rfl | exact V_nilCheck_yield rfl rfl)) (GR_cons rfl rfl rfl rfl ((by first | exact V_field rfl rfl fo_102_2 | exact V_fieldA rfl rfl fo_102_2)) (GR_cons rfl rfl rfl rfl ((by first | exact V_load rfl rfl ag_3 (CellAt.item rfl) | exact V_load rfl rfl ag_3 (CellAt.old (hs.cell rfl) (noM _)))) (GR_cons rfl rfl rfl rfl (V_sub rfl rfl rfl (wrap_i64 (by omega))) (GR_cons rfl rfl rfl rfl (V_index rfl rfl rfl Tryz.underlying30 sz_53 (k := (samp - b.per).toNat) (by omega) (by omega) (hp.isSome (k := samp.toNat) (by omega))) (GR_cons rfl rfl rfl rfl ((by first | exact V_field rfl rfl fo_53_0 | exact V_fieldA rfl rfl fo_53_0)) (GR_cons rfl rfl rfl rfl (V_load rfl rfl ag_2 (hp.at0 noM (by omega) rfl)) (GR_cons rfl rfl rfl rfl ((by first | exact V_field rfl rfl fo_53_1 | exact V_fieldA rfl rfl fo_53_1)) (GR_cons rfl rfl rfl rfl ((by first | exact V_load rfl rfl ag_2 (CellAt.item rfl) | exact V_load rfl rfl ag_2 (CellAt.old (hs.cell rfl) (noM _)))) (GR_cons rfl rfl rfl rfl (V_sub rfl rfl rfl (wrap_i64 (by omega))) (GR_cons rfl rfl rfl rfl (V_move rfl rfl) (GR_cons rfl rfl rfl rfl ((by first | exact V_nilCheck rfl rfl | exact V_nilCheck_func rfl rfl | exact V_nilCheck_yield rfl rfl)) (GR_cons rfl rfl rfl rfl ((by first | exact V_field rfl rfl fo_102_0 | exact V_fieldA rfl rfl fo_102_0)) (GR_cons rfl rfl rfl rfl ((by first | exact V_field rfl rfl fo_28_3 | exact V_fieldA rfl rfl fo_28_3)) (GR_cons rfl rfl rfl rfl ((by first | exact V_load rfl rfl ag_2 (CellAt.item rfl) | exact V_load rfl rfl ag_2 (CellAt.old (hs.cell rfl) (noM _)))) (GR_cons rfl rfl rfl rfl (V_sub rfl rfl rfl (wrap_i64 (by omega))) (GR_nil))))))))))))))))))))))) ?_
                  first | refine GT_st rfl rfl rfl rfl (V_field rfl rfl fo_72_3) ?_ | refine GT_st rfl rfl rfl rfl (V_fieldA rfl rfl fo_72_3) ?_
                  refine GT_store (vs := [_]) (l' := [_, _, _, _, _]) rfl rfl rfl rfl rfl rfl rfl sz_2 rfl rfl (Nat.le_of_ble_eq_true rfl) rfl (GR_nil) ?_
                  refine GT_nil ?_
                  refine GE_inBlock ?_
                  refine GE_seq ?_
                  refine GE_slots (L' := [(6, _), (8, _)]) ⟨rfl, rfl, trivial⟩ ?_
                  refine GE_plain (.st 0 (.ld 1 [] (.st 2 .nil))) rfl ?_
                  refine GT_st rfl rfl rfl rfl (V_loadN (vs := [_, _, _, _, _]) rfl rfl ag_72 sz_72 rfl (CellsAt.item rfl)) ?_
                  refine GT_store (vs := [_, _, _, _, _]) (l' := [_, _, _, _, _]) rfl rfl rfl rfl rfl rfl rfl sz_72 rfl rfl (Nat.le_of_ble_eq_true rfl) rfl (GR_nil) ?_
                  refine GT_st rfl rfl rfl rfl (V_assign rfl rfl) ?_
                  refine GT_nil ?_
                  refine GE_ret Tryz.func23 ⟨_, _, ⟨_, rfl, fun w m => run_loadVar_agg (vs := [_, _, _, _, _]) ag_72 sz_72 rfl (fun j v hj => CellsAt.item rfl j v hj w m)⟩, rfl, rfl⟩ (fun w hw => ⟨?_, hw.nil⟩)
                  unfold edgeOf; (repeat' split) <;> first | rfl | omega
              · skip
                refine GE_seq ?_
                refine GE_slots (L' := [(6, _), (8, _)]) ⟨rfl, rfl, trivial⟩ ?_
                refine GE_plain (.st 0 (.ld 1 [] (.st 2 .nil))) rfl ?_
                refine GT_st rfl rfl rfl rfl (V_loadN (vs := [_, _, _, _, _]) rfl rfl ag_72 sz_72 rfl (CellsAt.item rfl)) ?_
                refine GT_store (vs := [_, _, _, _, _]) (l' := [_, _, _, _, _]) rfl rfl rfl rfl rfl rfl rfl sz_72 rfl rfl (Nat.le_of_ble_eq_true rfl) rfl (GR_nil) ?_
                refine GT_st rfl rfl rfl rfl (V_assign rfl rfl) ?_
                refine GT_nil ?_
                refine GE_ret Tryz.func23 ⟨_, _, ⟨_, rfl, fun w m => run_loadVar_agg (vs := [_, _, _, _, _]) ag_72 sz_72 rfl (fun j v hj => CellsAt.item rfl j v hj w m)⟩, rfl, rfl⟩ (fun w hw => ⟨?_, hw.nil⟩)
                unfold edgeOf; (repeat' split) <;> first | rfl | omega

theorem C_lathe_edges {bs : Nat} {w : World} : Con Tryz.prog 33 [ptr bs 0] w (fun _ : Nat => True) (fun bb => .func (.func 56) #[] #[ptr bb 0]) (fun bb => [(bb, blk [ptr bs 0] 59)]) := by
  refine Ret_of (vs := [_]) hm none' Tryz.func33 rfl Tryz.ntmps33 rfl ?_
  dsimp only [slotsOf]
  refine GE_seq ?_
  refine GE_plain (.ld 0 [] (.st 1 .nil)) rfl ?_
  refine GT_box (z := [_]) rfl rfl rfl rfl rfl rfl rfl (fun _ => GR_nil) (fun b1 => ?_)
  refine GT_st rfl rfl rfl rfl (V_assign rfl rfl) ?_
  refine GT_nil ?_
  refine GE_seq ?_
  refine GE_plain (.st 0 (.st 1 .nil)) rfl ?_
  refine GT_st rfl rfl rfl rfl (V_makeFunc rfl rfl rfl) ?_
  refine GT_st rfl rfl rfl rfl (V_assign rfl rfl) ?_
  refine GT_nil ?_
  refine GE_ret Tryz.func33 rfl (fun w hw => ⟨b1, trivial, rfl, hw⟩)
  skip

/-- the outer k elements on both sides exchanged -/
def revTo {α : Type} [Inhabited α] (l : List α) (k : Nat) : List α := (List.range l.length).map fun q => if q < k ∨ l.length - k ≤ q then l.getD (l.length - 1 - q) default else l.getD q default
theorem revTo_length {α : Type} [Inhabited α] (l : List α) (k : Nat) : (revTo l k).length = l.length := by simp [revTo]
theorem revTo_getD {α : Type} [Inhabited α] (l : List α) (k q : Nat) (hq : q < l.length) : (revTo l k).getD q default = if q < k ∨ l.length - k ≤ q then l.getD (l.length - 1 - q) default else l.getD q default := by
  simp [revTo, List.getD, hq]
theorem list_ext_getD {α : Type} [Inhabited α] {a b : List α} (hl : a.length = b.length) (h : ∀ q, q < a.length → a.getD q default = b.getD q default) : a = b := by
  apply List.ext_getElem hl
  intro i h1 h2
  have := h i h1
  simpa [List.getD, h1, h2] using this
theorem revTo_zero {α : Type} [Inhabited α] (l : List α) : revTo l 0 = l := by
  apply list_ext_getD (revTo_length l 0)
  intro q hq
  rw [revTo_length] at hq
  rw [revTo_getD _ _ _ hq, if_neg (by omega)]
theorem getD_set {α : Type} [Inhabited α] {l : List α} {i q : Nat} {x : α} (hi : i < l.length) : (l.set i x).getD q default = if i = q then x else l.getD q default := by
  simp only [List.getD, List.getElem?_set]
  split
  · rename_i h; subst h; simp [hi]
  · rfl
theorem revTo_succ {α : Type} [Inhabited α] (l : List α) (k j : Nat) (hj : j + k + 1 = l.length) (hk : k < j) : ((revTo l k).set k ((revTo l k).getD j default)).set j ((revTo l k).getD k default) = revTo l (k + 1) := by
  apply list_ext_getD (by simp [revTo_length])
  intro q hq
  simp only [List.length_set, revTo_length] at hq
  rw [getD_set (by simp [revTo_length]; omega), getD_set (by simp [revTo_length]; omega), revTo_getD _ _ _ hq, revTo_getD _ _ _ hq, revTo_getD l k j (by omega), revTo_getD l k k (by omega)]
  by_cases h1 : j = q
  · subst h1
    rw [if_pos rfl, if_neg (by omega), if_pos (by omega)]
    congr 1; omega
  · rw [if_neg h1]
    by_cases h2 : k = q
    · subst h2
      rw [if_pos rfl, if_neg (by omega), if_pos (by omega)]
      congr 1; omega
    · rw [if_neg h2]
      by_cases h3 : q < k ∨ l.length - k ≤ q
      · rw [if_pos h3, if_pos (by omega)]
      · rw [if_neg h3, if_neg (by omega)]
theorem revTo_end {α : Type} [Inhabited α] (l : List α) (k : Nat) (hk : l.length ≤ 2 * k + 1) : revTo l k = l.reverse := by
  apply list_ext_getD (by simp [revTo_length])
  intro q hq
  rw [revTo_length] at hq
  rw [revTo_getD _ _ _ hq]
  have : l.reverse.getD q default = l.getD (l.length - 1 - q) default := by simp [List.getD, List.getElem?_reverse hq]
  rw [this]
  split
  · rfl
  · congr 1; omega

theorem C_slices_Reverse {l : List Stp} {A : Option Addr} {c : Nat} {I0 : Items} {w : World} {w0 : World} {H H1 : Items} [hch : HChunk I0 H H1] (m : SH w0 none' H w) (hO : Own 2 70 eStp l (.slice A l.length c) I0) (hl : l.length ≤ 1099511627776) :
    Ret Tryz.prog 57 [.slice A l.length c].toArray w fun v w' => ∃ I', Own 2 70 eStp l.reverse (.slice A l.length c) I' ∧ v = .tuple #[] ∧ SH w0 none' (I' ++ H1) w' := by
  have m' := m.perm hch.perm
  refine Ret_ofH (vs := [_]) hm none' Tryz.func57 rfl Tryz.ntmps57 rfl m' ?_
  dsimp only [slotsOf]
  refine GE_seq ?_
  refine GE_plain (.st 0 (.st 1 (.st 2 (.st 3 (.st 4 .nil))))) rfl ?_
  refine GT_st rfl rfl rfl rfl (V_move rfl rfl) ?_
  refine GT_st rfl rfl rfl rfl (V_len rfl Tryz.underlying45 rfl) ?_
  refine GT_st rfl rfl rfl rfl (V_sub rfl rfl rfl (wrap_i64 (by omega))) ?_
  refine GT_st rfl rfl rfl rfl (V_assign rfl rfl) ?_
  refine GT_st rfl rfl rfl rfl (V_assign rfl rfl) ?_
  refine GT_nil ?_
  refine GE_block ?_
  refine GE_to (GE_loop (ι := Nat × Int × Items) (fun x => l.length - x.1) (fun x => [(0, .slice A l.length c), (2, I x.1), (3, I x.2.1)]) (fun x => x.2.2 ++ H1) (fun x => x.1 ≤ l.length ∧ x.2.1 = (l.length : Int) - 1 - x.1 ∧ Own 2 70 eStp (revTo l x.1) (.slice A l.length c) x.2.2) ?_ (0, _, I0) ?_) ⟨rfl, rfl, rfl, trivial⟩ (HS.chunk HS.all)
  · rintro ⟨k, j, I1⟩ ⟨hk, hj, hO1⟩ ih; dsimp only at hk hj hO1 ih ⊢
    refine GE_seq ?_
    refine GE_seq ?_
    refine GE_plain (.st 0 (.st 1 (.st 2 .nil))) rfl ?_
    refine GT_st rfl rfl rfl rfl (V_move rfl rfl) ?_
    refine GT_st rfl rfl rfl rfl (V_move rfl rfl) ?_
    refine GT_st rfl rfl rfl rfl (V_lss rfl rfl rfl) ?_
    refine GT_nil ?_
    first | refine GE_condNot rfl (fun h1 => ?_) (fun h1 => ?_) | refine GE_cond rfl (fun h1 => ?_) (fun h1 => ?_) | refine GE_condNotB rfl (fun h1 => ?_) (fun h1 => ?_) | refine GE_condB rfl (fun h1 => ?_) (fun h1 => ?_)
    · have hlen := revTo_length l k
      refine GE_skip ?_
      refine GE_seq ?_
      refine GE_block ?_
      refine GE_drawn (.st 0 (.st 1 (.st 2 (.st 3 (.st 4 (.st 5 (.st 6 (.st 7 (.st 8 (.st 9 (.st 10 (.st 11 (.st 12 (.ld 13 [2, 3] (.st 14 (.ld 15 [] .nil)))))))))))))))) [13, 15] (by decide +kernel) ?_
      refine GT_st rfl rfl rfl rfl (V_move rfl rfl) ?_
      refine GT_st rfl rfl rfl rfl (V_move rfl rfl) ?_
      refine GT_st rfl rfl rfl rfl (V_move rfl rfl) ?_
      refine GT_st rfl rfl rfl rfl (V_move rfl rfl) ?_
      refine GT_st rfl rfl rfl rfl (V_move rfl rfl) ?_
      refine GT_st rfl rfl rfl rfl (V_move rfl rfl) ?_
      refine GT_st rfl rfl rfl rfl (V_index rfl rfl rfl Tryz.underlying45 sz_70 (k := j.toNat) (by omega) (by omega) (hO1.isSome (k := k) (by omega))) ?_
      refine GT_st rfl rfl rfl rfl (V_loadN (vs := [_, _]) rfl rfl ag_70 sz_70 rfl (CellsAt.own hO1 eStp_len (by omega))) ?_
      refine GT_st rfl rfl rfl rfl (V_move rfl rfl) ?_
      refine GT_st rfl rfl rfl rfl (V_move rfl rfl) ?_
      refine GT_st rfl rfl rfl rfl (V_index rfl rfl rfl Tryz.underlying45 sz_70 rfl (by omega) (hO1.isSome (k := k) (by omega))) ?_
      refine GT_st rfl rfl rfl rfl (V_loadN (vs := [_, _]) rfl rfl ag_70 sz_70 rfl (CellsAt.own hO1 eStp_len (by omega))) ?_
      refine GT_st rfl rfl rfl rfl (V_index rfl rfl rfl Tryz.underlying45 sz_70 rfl (by omega) (hO1.isSome (k := k) (by omega))) ?_
      refine GT_storeOwn (enc := eStp) (q := k) (xx := (revTo l k).getD j.toNat default) rfl rfl rfl rfl rfl rfl rfl sz_70 hO1 eStp_len eStp_one (by omega) (by decide) (fun _ _ => GR_cons rfl rfl rfl rfl (V_move rfl rfl) (GR_cons rfl rfl rfl rfl (V_move rfl rfl) (GR_nil))) (fun I2 hO2 => ?_)
      refine GT_st rfl rfl rfl rfl (V_index rfl rfl rfl Tryz.underlying45 sz_70 (k := j.toNat) (by omega) (by omega) (hO1.isSome (k := k) (by omega))) ?_
      refine GT_storeOwn (enc := eStp) (q := j.toNat) (xx := (revTo l k).getD k default) rfl rfl rfl rfl rfl rfl rfl sz_70 hO2 eStp_len eStp_one (by simp; omega) (by decide) (fun _ _ => GR_nil) (fun I3 hO3 => ?_)
      refine GT_nil ?_
      refine GE_inBlock ?_
      refine GE_slots (L' := [(0, _), (2, _), (3, _)]) ⟨rfl, rfl, rfl, trivial⟩ ?_
      rw [revTo_succ l k j.toNat (by omega) (by omega)] at hO3
      refine GE_plain (.st 0 (.st 1 (.st 2 (.st 3 (.ld 4 [] (.ld 5 [] .nil)))))) rfl ?_
      refine GT_st rfl rfl rfl rfl (V_move rfl rfl) ?_
      refine GT_st rfl rfl rfl rfl (V_add rfl rfl rfl (wrap_i64 (by omega))) ?_
      refine GT_st rfl rfl rfl rfl (V_move rfl rfl) ?_
      refine GT_st rfl rfl rfl rfl (V_sub rfl rfl rfl (wrap_i64 (by omega))) ?_
      refine GT_ldv rfl rfl rfl rfl rfl (V_assign rfl rfl) (GR_nil) ?_
      refine GT_ldv rfl rfl rfl rfl rfl (V_assign rfl rfl) (GR_nil) ?_
      refine GT_nil ?_
      exact GE_to (ih (k + 1, _, I3) ⟨by dsimp only; omega, by dsimp only; omega, hO3⟩ (by dsimp only; omega)) ⟨rfl, rfl, rfl, trivial⟩ (HS.chunk HS.all)
    · have he := revTo_end l k (by omega)
      refine GE_exit rfl ?_
      refine GE_end Tryz.func57 rfl (fun w hw => ?_)
      exact ⟨I1, by rw [← he]; exact hO1, rfl, hw⟩
  · exact ⟨Nat.zero_le _, by simp, by rw [revTo_zero]; exact hO⟩
end Go.Proofs.YtogljfjbilndnaaGreatDoor.Lathe
/- lathe: way, circle, and the function that yields the edges, walked -/
namespace Go.Proofs.YtogljfjbilndnaaGreatDoor.Lathe
open Go.Sx Go.Proofs

theorem hide {p : Prop} (h : p) : Go.RowKit.Hid p := h
/-- the steps of a way, from its end -/
def wsteps (last : List Edge) (x : Edge) (k : Nat) : List Stp := x.stp :: (List.range k).map fun i => (last.getD (back last i x.frm).toNat default).stp
theorem wsteps_length (last : List Edge) (x : Edge) (k : Nat) : (wsteps last x k).length = k + 1 := by simp [wsteps]
theorem wsteps_succ (last : List Edge) (x : Edge) (k : Nat) : wsteps last x k ++ [(last.getD (back last k x.frm).toNat default).stp] = wsteps last x (k + 1) := by simp [wsteps, List.range_succ]
/-- where a way has come to -/
def wat (last : List Edge) (x : Edge) : Nat → Edge
  | 0 => x
  | k + 1 => last.getD (back last k x.frm).toNat default
theorem wat_frm (last : List Edge) (x : Edge) : ∀ k, (wat last x k).frm = back last k x.frm
  | 0 => rfl
  | _ + 1 => rfl

theorem C_lathe_way {last : List Edge} {x : Edge} {A : Option Addr} {c m n : Nat} {w : World} (hn : n = last.length) (hr : RdL w 5 eEdge A last) (hq : ∀ i, i < m → 0 ≤ back last i x.frm ∧ back last i x.frm < last.length) (hm1 : back last m x.frm = -1) (hm2 : m ≤ 67108864) :
    Con Tryz.prog 35 [.slice A n c, .agg (eEdge x).toArray] w (fun y : Option Addr × Nat × Items => Own 2 70 eStp (wsteps last x m).reverse (.slice y.1 (wsteps last x m).length y.2.1) y.2.2)
      (fun y => .slice y.1 (wsteps last x m).length y.2.1) (fun y => y.2.2) := by
  subst hn
  refine Ret_of (vs := [_, _]) hm none' Tryz.func35 rfl Tryz.ntmps35 rfl ?_
  dsimp only [slotsOf]
  refine GE_seq ?_
  refine GE_plain (.ld 0 [] (.st 1 .nil)) rfl ?_
  refine GT_box (z := [_, _, _, _, _]) rfl rfl rfl rfl rfl rfl rfl (fun _ => GR_nil) (fun b3 => ?_)
  refine GT_st rfl rfl rfl rfl (V_assign rfl rfl) ?_
  refine GT_nil ?_
  refine GE_seq ?_
  refine GE_plain (.st 0 (.st 1 (.ld 2 [] (.st 3 .nil)))) rfl ?_
  first | refine GT_st rfl rfl rfl rfl (V_field rfl rfl fo_72_0) ?_ | refine GT_st rfl rfl rfl rfl (V_fieldA rfl rfl fo_72_0) ?_
  refine GT_st rfl rfl rfl rfl (V_loadN (vs := [_, _]) rfl rfl ag_70 sz_70 rfl (CellsAt.item rfl)) ?_
  refine GT_buildSlice (z := [_, _]) rfl rfl rfl rfl rfl Tryz.underlying45 zc_70 sz_70 (by decide) rfl rfl (fun _ => GR_nil) (fun b8 => ?_)
  refine GT_st rfl rfl rfl rfl (V_assign rfl rfl) ?_
  refine GT_nil ?_
  refine GE_seq ?_
  refine GE_block ?_
  refine GE_to (GE_loop (ι := Nat × Option Addr × Nat × Items) (fun y => m - y.1) (fun y => [(0, .slice A last.length c), (3, ptr b3 0), (5, .slice y.2.1 (wsteps last x y.1).length y.2.2.1)]) (fun y => y.2.2.2 ++ [(b3, blk (eEdge (wat last x y.1)) 72)]) (fun y => y.1 ≤ m ∧ Own 2 70 eStp (wsteps last x y.1) (.slice y.2.1 (wsteps last x y.1).length y.2.2.1) y.2.2.2) ?_ (0, some ⟨b8, 0, none⟩, 1, [(b8, blk (eStp x.stp) 70)]) ?_) ⟨rfl, rfl, rfl, trivial⟩ (show HS _ _ ((b8, blk (eStp x.stp) 70) :: (b3, blk (eEdge x) 72) :: []) from HS.cons rfl (HS.cons rfl HS.nil))
  · rintro ⟨k, A5, c5, I5⟩ ⟨hk, hO⟩ ih; dsimp only at hk hO ih ⊢; have hfr := wat_frm last x k
    refine GE_seq ?_
    refine GE_seq ?_
    refine GE_plain (.st 0 (.st 1 (.st 2 .nil))) rfl ?_
    first | refine GT_st rfl rfl rfl rfl (V_field rfl rfl fo_72_1) ?_ | refine GT_st rfl rfl rfl rfl (V_fieldA rfl rfl fo_72_1) ?_
    refine GT_st rfl rfl rfl rfl (V_load rfl rfl ag_3 (CellAt.item rfl)) ?_
    refine GT_st rfl rfl rfl rfl (V_neq rfl rfl rfl) ?_
    refine GT_nil ?_
    first | refine GE_condNot rfl (fun h1 => ?_) (fun h1 => ?_) | refine GE_cond rfl (fun h1 => ?_) (fun h1 => ?_) | refine GE_condNotB rfl (fun h1 => ?_) (fun h1 => ?_) | refine GE_condB rfl (fun h1 => ?_) (fun h1 => ?_)
    · have hkm : k < m := (by rcases Nat.lt_or_ge k m with h | h; exact h; obtain rfl : k = m := (by omega); exact absurd (hfr.trans hm1) h1)
      refine GE_skip ?_
      refine GE_block ?_
      refine GE_seq ?_
      refine GE_plain (.st 0 (.st 1 (.st 2 (.st 3 (.st 4 (.ld 5 [] .nil)))))) rfl ?_
      refine GT_st rfl rfl rfl rfl (V_move rfl rfl) ?_
      first | refine GT_st rfl rfl rfl rfl (V_field rfl rfl fo_72_1) ?_ | refine GT_st rfl rfl rfl rfl (V_fieldA rfl rfl fo_72_1) ?_
      refine GT_st rfl rfl rfl rfl (V_load rfl rfl ag_3 (CellAt.item rfl)) ?_
      refine GT_st rfl rfl rfl rfl (V_index rfl rfl rfl Tryz.underlying103 sz_72 (k := (back last k x.frm).toNat) (by have := hq k hkm; omega) (by have := hq k hkm; omega) (hr.isSome (k := (back last k x.frm).toNat) (by have := hq k hkm; omega))) ?_
      refine GT_st rfl rfl rfl rfl (V_loadN (vs := [_, _, _, _, _]) rfl rfl ag_72 sz_72 rfl (hr.ats noM (by have := hq k hkm; omega))) ?_
      refine GT_store (vs := [_, _, _, _, _]) (l' := [_, _, _, _, _]) rfl rfl rfl rfl rfl rfl rfl sz_72 rfl rfl (Nat.le_of_ble_eq_true rfl) rfl (GR_nil) ?_
      refine GT_nil ?_
      refine GE_slots (L' := [(0, _), (3, _), (5, _)]) ⟨rfl, rfl, rfl, trivial⟩ ?_
      refine GE_plain (.st 0 (.st 1 (.st 2 (.ld 3 [] (.ld 4 [] (.ld 5 [] .nil)))))) rfl ?_
      refine GT_st rfl rfl rfl rfl (V_move rfl rfl) ?_
      first | refine GT_st rfl rfl rfl rfl (V_field rfl rfl fo_72_0) ?_ | refine GT_st rfl rfl rfl rfl (V_fieldA rfl rfl fo_72_0) ?_
      refine GT_st rfl rfl rfl rfl (V_loadN (vs := [_, _]) rfl rfl ag_70 sz_70 rfl (CellsAt.item rfl)) ?_
      refine GT_buildSlice (z := [_, _]) rfl rfl rfl rfl rfl Tryz.underlying45 zc_70 sz_70 (by decide) rfl rfl (fun _ => GR_nil) (fun b20 => ?_)
      refine GT_append (enc := eStp) (m := [(last.getD (back last k x.frm).toNat default).stp]) rfl rfl rfl rfl rfl rfl rfl hO (fun w m => RdL.own' m eStp_len) Tryz.underlying45 zc_70 sz_70 ⟨rfl, by decide⟩ by_70 ⟨by rw [wsteps_length]; simp; omega, by rw [wsteps_length]; simp; omega⟩ eStp_len eStp_one (fun _ _ _ _ => GR_nil) (fun A' c' I' hO' => ?_)
      rw [wsteps_succ] at hO' ⊢
      refine GT_ldv rfl rfl rfl rfl rfl (V_assign rfl rfl) (GR_nil) ?_
      refine GT_nil ?_
      refine GE_inBlock ?_
      exact GE_to (ih (k + 1, A', c', I') ⟨by dsimp only; omega, hO'⟩ (by dsimp only; omega)) ⟨rfl, rfl, rfl, trivial⟩ (HS.chunk (HS.cons rfl HS.nil))
    · obtain rfl : k = m := (by rcases Nat.lt_or_ge k m with h | h; have := hq k h; omega; omega)
      refine GE_exit rfl ?_
      refine GE_seq ?_
      refine GE_slots (L' := [(5, _)]) ⟨rfl, trivial⟩ ?_
      refine GE_plain (.st 0 (.ld 1 [] .nil)) rfl ?_
      refine GT_st rfl rfl rfl rfl (V_move rfl rfl) ?_
      refine GT_callX rfl rfl rfl rfl rfl rfl rfl rfl rn_57 (fun w m => C_slices_Reverse m hO (by rw [wsteps_length]; omega)) (fun _ _ => GR_nil) (fun I6 hO6 => ?_)
      refine GT_nil ?_
      refine GE_seq ?_
      refine GE_plain (.st 0 (.st 1 .nil)) rfl ?_
      refine GT_st rfl rfl rfl rfl (V_move rfl rfl) ?_
      refine GT_st rfl rfl rfl rfl (V_assign rfl rfl) ?_
      refine GT_nil ?_
      refine GE_ret Tryz.func35 rfl (fun w hw => ?_)
      exact ⟨(A5, c5, I6), hO6, rfl, hw.chunk⟩
  · exact ⟨Nat.zero_le _, (show Own 2 70 eStp [x.stp] (.slice (some ⟨b8, 0, none⟩) 1 1) _ from Own.lit rfl rfl (by decide))⟩

/-- the steps of a circle, from its end -/
def csteps (last : List Edge) (v : Int) (k : Nat) : List Stp := (List.range k).map fun i => (last.getD (back last i v).toNat default).stp
theorem csteps_length (last : List Edge) (v : Int) (k : Nat) : (csteps last v k).length = k := by simp [csteps]
theorem csteps_succ (last : List Edge) (v : Int) (k : Nat) : csteps last v k ++ [(last.getD (back last k v).toNat default).stp] = csteps last v (k + 1) := by simp [csteps, List.range_succ]

/-- m is the first number of steps behind which it is back. -/
def Circ (last : List Edge) (v : Int) (m : Nat) : Prop := 0 < m ∧ back last m v = v ∧ ∀ j, 0 < j → j < m → back last j v ≠ v

theorem C_lathe_circle {last : List Edge} {v0 : Int} {A : Option Addr} {c m0 n : Nat} {w : World} (hnl : n = last.length) (hr : RdL w 5 eEdge A last) (hq : ∀ i, 0 ≤ back last i v0 ∧ back last i v0 < last.length) (hn : last.length ≤ 1000000) (h0 : 0 < m0) (hm0 : back last m0 (back last last.length v0) = back last last.length v0) (hle : m0 ≤ 1000000)
    (hq2 : ∀ i, 0 ≤ back last i (back last last.length v0) ∧ back last i (back last last.length v0) < last.length) :
    Con Tryz.prog 34 [.slice A n c, I v0] w (fun y : Nat × Option Addr × Nat × Items => Circ last (back last last.length v0) y.1 ∧ Own 2 70 eStp (csteps last (back last last.length v0) y.1).reverse (.slice y.2.1 (csteps last (back last last.length v0) y.1).length y.2.2.1) y.2.2.2)
      (fun y => .slice y.2.1 (csteps last (back last last.length v0) y.1).length y.2.2.1) (fun y => y.2.2.2) := by
  subst hnl
  generalize hv : back last last.length v0 = v at *
  have Hv := hide hv
  clear hv
  refine Ret_of (vs := [_, _]) hm none' Tryz.func34 rfl Tryz.ntmps34 rfl ?_
  dsimp only [slotsOf]
  refine GE_seq ?_
  refine GE_plain (.st 0 .nil) rfl ?_
  refine GT_st rfl rfl rfl rfl (V_assign rfl rfl) ?_
  refine GT_nil ?_
  refine GE_seq ?_
  refine GE_seq ?_
  refine GE_plain (.st 0 (.st 1 (.st 2 .nil))) rfl ?_
  refine GT_st rfl rfl rfl rfl (V_move rfl rfl) ?_
  refine GT_st rfl rfl rfl rfl (V_len rfl Tryz.underlying103 rfl) ?_
  refine GT_st rfl rfl rfl rfl (V_move rfl rfl) ?_
  refine GT_nil ?_
  refine GE_block ?_
  refine GE_to (GE_loop (ι := Nat) (fun k => last.length - k) (fun k => [(0, .slice A last.length c), (1, I (back last k v0)), (8, I last.length), (9, I k)]) (fun k => []) (fun k => k ≤ last.length) ?_ 0 ?_) ⟨rfl, rfl, rfl, rfl, trivial⟩ HS.nil
  · intro k hk ih
    refine GE_seq ?_
    refine GE_plain (.st 0 .nil) rfl ?_
    refine GT_st rfl rfl rfl rfl (V_lss rfl rfl rfl) ?_
    refine GT_nil ?_
    refine GE_seq ?_
    first | refine GE_condNot rfl (fun h1 => ?_) (fun h1 => ?_) | refine GE_cond rfl (fun h1 => ?_) (fun h1 => ?_) | refine GE_condNotB rfl (fun h1 => ?_) (fun h1 => ?_) | refine GE_condB rfl (fun h1 => ?_) (fun h1 => ?_)
    · have hqk := hq k
      refine GE_skip ?_
      refine GE_seq ?_
      refine GE_block ?_
      refine GE_plain (.st 0 (.st 1 (.st 2 (.st 3 (.st 4 (.ld 5 [] .nil)))))) rfl ?_
      refine GT_st rfl rfl rfl rfl (V_move rfl rfl) ?_
      refine GT_st rfl rfl rfl rfl (V_move rfl rfl) ?_
      refine GT_st rfl rfl rfl rfl (V_index rfl rfl rfl Tryz.underlying103 sz_72 (k := (back last k v0).toNat) (by omega) (by omega) (hr.isSome (k := k) (by omega))) ?_
      first | refine GT_st rfl rfl rfl rfl (V_field rfl rfl fo_72_1) ?_ | refine GT_st rfl rfl rfl rfl (V_fieldA rfl rfl fo_72_1) ?_
      refine GT_st rfl rfl rfl rfl (V_load rfl rfl ag_3 (hr.at1 noM (by omega) rfl)) ?_
      refine GT_ldv rfl rfl rfl rfl rfl (V_assign rfl rfl) (GR_nil) ?_
      refine GT_nil ?_
      refine GE_inBlock ?_
      refine GE_slots (L' := [(0, _), (1, _), (8, _), (9, _)]) ⟨rfl, rfl, rfl, rfl, trivial⟩ ?_
      refine GE_plain (.st 0 (.ld 1 [] .nil)) rfl ?_
      refine GT_st rfl rfl rfl rfl (V_add rfl rfl rfl (wrap_i64 (by omega))) ?_
      refine GT_ldv rfl rfl rfl rfl rfl (V_move rfl rfl) (GR_nil) ?_
      refine GT_nil ?_
      exact GE_to (ih (k + 1) (by omega) (by omega)) ⟨rfl, rfl, rfl, rfl, trivial⟩ HS.nil
    · obtain rfl : k = last.length := (by omega); rw [Hv.out]; have hqv := hq2 0; simp only [back] at hqv
      refine GE_exit rfl ?_
      refine GE_seq ?_
      refine GE_plain (.st 0 .nil) rfl ?_
      refine GT_st rfl rfl rfl rfl (V_assign rfl rfl) ?_
      refine GT_nil ?_
      refine GE_seq ?_
      refine GE_plain (.st 0 (.st 1 (.st 2 (.st 3 (.ld 4 [] (.ld 5 [] .nil)))))) rfl ?_
      refine GT_st rfl rfl rfl rfl (V_move rfl rfl) ?_
      refine GT_st rfl rfl rfl rfl (V_move rfl rfl) ?_
      refine GT_st rfl rfl rfl rfl (V_index rfl rfl rfl Tryz.underlying103 sz_72 (k := v.toNat) (by omega) (by omega) (hr.isSome (k := v.toNat) (by omega))) ?_
      refine GT_st rfl rfl rfl rfl (V_loadN (vs := [_, _, _, _, _]) rfl rfl ag_72 sz_72 rfl (hr.ats noM (by omega))) ?_
      refine GT_alloc rfl rfl rfl rfl rfl zc_72 (fun _ => GR_nil) (fun b6 => ?_)
      refine GT_store (vs := [_, _, _, _, _]) (l' := [_, _, _, _, _]) rfl rfl rfl rfl rfl rfl rfl sz_72 rfl rfl (Nat.le_of_ble_eq_true rfl) rfl (GR_nil) ?_
      refine GT_nil ?_
      refine GE_block ?_
      refine GE_to (GE_loop (ι := Nat × Nat × Option Addr × Nat × Items) (fun y => m0 - y.1) (fun y => [(0, .slice A last.length c), (1, I v), (5, .slice y.2.2.1 (csteps last v y.1).length y.2.2.2.1), (6, ptr y.2.1 0)]) (fun y => y.2.2.2.2 ++ [(y.2.1, blk (eEdge (last.getD (back last y.1 v).toNat default)) 72)]) (fun y => y.1 < m0 ∧ (∀ j, 0 < j → j ≤ y.1 → back last j v ≠ v) ∧ Own 2 70 eStp (csteps last v y.1) (.slice y.2.2.1 (csteps last v y.1).length y.2.2.2.1) y.2.2.2.2) ?_ (0, b6, none, 0, []) ?_) ⟨rfl, rfl, rfl, rfl, trivial⟩ (HS.chunk (HS.cons rfl HS.nil))
      · rintro ⟨k, b6, A5, c5, I5⟩ ⟨hk, hne, hO⟩ ih2; dsimp only at hk hne hO ih2 ⊢
        refine GE_seq ?_
        refine GE_block ?_
        refine GE_seq ?_
        refine GE_plain (.st 0 (.st 1 (.st 2 (.ld 3 [] (.ld 4 [] (.ld 5 [] .nil)))))) rfl ?_
        refine GT_st rfl rfl rfl rfl (V_move rfl rfl) ?_
        first | refine GT_st rfl rfl rfl rfl (V_field rfl rfl fo_72_0) ?_ | refine GT_st rfl rfl rfl rfl (V_fieldA rfl rfl fo_72_0) ?_
        refine GT_st rfl rfl rfl rfl (V_loadN (vs := [_, _]) rfl rfl ag_70 sz_70 rfl (CellsAt.item rfl)) ?_
        refine GT_buildSlice (z := [_, _]) rfl rfl rfl rfl rfl Tryz.underlying45 zc_70 sz_70 (by decide) rfl rfl (fun _ => GR_nil) (fun b29 => ?_)
        refine GT_append (enc := eStp) (m := [(last.getD (back last k v).toNat default).stp]) rfl rfl rfl rfl rfl rfl rfl hO (fun w m => RdL.own' m eStp_len) Tryz.underlying45 zc_70 sz_70 ⟨rfl, by decide⟩ by_70 ⟨by rw [csteps_length]; simp; omega, by rw [csteps_length]; simp; omega⟩ eStp_len eStp_one (fun _ _ _ _ => GR_nil) (fun A' c' I' hO' => ?_)
        rw [csteps_succ] at hO' ⊢
        refine GT_ldv rfl rfl rfl rfl rfl (V_assign rfl rfl) (GR_nil) ?_
        refine GT_nil ?_
        refine GE_seq ?_
        refine GE_slots (L' := [(0, _), (1, _), (5, _), (6, _)]) ⟨rfl, rfl, rfl, rfl, trivial⟩ ?_
        refine GE_plain (.st 0 (.st 1 (.st 2 (.st 3 .nil)))) rfl ?_
        first | refine GT_st rfl rfl rfl rfl (V_field rfl rfl fo_72_1) ?_ | refine GT_st rfl rfl rfl rfl (V_fieldA rfl rfl fo_72_1) ?_
        refine GT_st rfl rfl rfl rfl (V_load rfl rfl ag_3 (CellAt.item rfl)) ?_
        refine GT_st rfl rfl rfl rfl (V_move rfl rfl) ?_
        refine GT_st rfl rfl rfl rfl (V_eql rfl rfl rfl) ?_
        refine GT_nil ?_
        first | refine GE_condNot rfl (fun h2 => ?_) (fun h2 => ?_) | refine GE_cond rfl (fun h2 => ?_) (fun h2 => ?_) | refine GE_condNotB rfl (fun h2 => ?_) (fun h2 => ?_) | refine GE_condB rfl (fun h2 => ?_) (fun h2 => ?_)
        · skip
          refine GE_seq ?_
          refine GE_slots (L' := [(5, _)]) ⟨rfl, trivial⟩ ?_
          refine GE_plain (.st 0 (.ld 1 [] .nil)) rfl ?_
          refine GT_st rfl rfl rfl rfl (V_move rfl rfl) ?_
          refine GT_callX rfl rfl rfl rfl rfl rfl rfl rfl rn_57 (fun w m => C_slices_Reverse m hO' (by rw [csteps_length]; omega)) (fun _ _ => GR_nil) (fun I6 hO6 => ?_)
          refine GT_nil ?_
          refine GE_seq ?_
          refine GE_plain (.st 0 (.st 1 .nil)) rfl ?_
          refine GT_st rfl rfl rfl rfl (V_move rfl rfl) ?_
          refine GT_st rfl rfl rfl rfl (V_assign rfl rfl) ?_
          refine GT_nil ?_
          refine GE_ret Tryz.func34 rfl (fun w hw => ?_)
          exact ⟨(k + 1, A', c', I6), ⟨⟨by dsimp only; omega, h2, (fun j hj1 hj2 => hne j hj1 (by dsimp only at hj2; omega))⟩, hO6⟩, rfl, hw.chunk⟩
        · have hqn := hq2 (k + 1)
          refine GE_skip ?_
          refine GE_inBlock ?_
          refine GE_seq ?_
          refine GE_seq ?_
          refine GE_slots (L' := [(0, _), (1, _), (5, _), (6, _)]) ⟨rfl, rfl, rfl, rfl, trivial⟩ ?_
          refine GE_plain (.st 0 .nil) rfl ?_
          refine GT_st rfl rfl rfl rfl (V_loadN (vs := [_, _, _, _, _]) rfl rfl ag_72 sz_72 rfl (CellsAt.item rfl)) ?_
          refine GT_nil ?_
          refine GE_plain (.ld 0 [] (.ld 1 [] .nil)) rfl ?_
          refine GT_alloc rfl rfl rfl rfl rfl zc_72 (fun _ => GR_nil) (fun b6 => ?_)
          refine GT_store (vs := [_, _, _, _, _]) (l' := [_, _, _, _, _]) rfl rfl rfl rfl rfl rfl rfl sz_72 rfl rfl (Nat.le_of_ble_eq_true rfl) rfl (GR_nil) ?_
          refine GT_nil ?_
          refine GE_plain (.st 0 (.st 1 (.st 2 (.st 3 (.st 4 (.ld 5 [] .nil)))))) rfl ?_
          refine GT_st rfl rfl rfl rfl (V_move rfl rfl) ?_
          first | refine GT_st rfl rfl rfl rfl (V_field rfl rfl fo_72_1) ?_ | refine GT_st rfl rfl rfl rfl (V_fieldA rfl rfl fo_72_1) ?_
          refine GT_st rfl rfl rfl rfl (V_load rfl rfl ag_3 (CellAt.item rfl)) ?_
          refine GT_st rfl rfl rfl rfl (V_index rfl rfl rfl Tryz.underlying103 sz_72 (k := (back last (k + 1) v).toNat) (show par last (back last k v) = _ by have : back last (k + 1) v = par last (back last k v) := rfl; omega) (by omega) (hr.isSome (k := (back last (k + 1) v).toNat) (by omega))) ?_
          refine GT_st rfl rfl rfl rfl (V_loadN (vs := [_, _, _, _, _]) rfl rfl ag_72 sz_72 rfl (hr.ats noM (by omega))) ?_
          refine GT_store (vs := [_, _, _, _, _]) (l' := [_, _, _, _, _]) rfl rfl rfl rfl rfl rfl rfl sz_72 rfl rfl (Nat.le_of_ble_eq_true rfl) rfl (GR_nil) ?_
          refine GT_nil ?_
          exact GE_to (ih2 (k + 1, b6, A', c', I') ⟨by dsimp only; rcases Nat.lt_or_ge (k + 1) m0 with h | h; exact h; exfalso; obtain rfl : k + 1 = m0 := (by omega); exact h2 hm0, (fun j hj1 hj2 => by dsimp only at hj2; rcases Nat.lt_or_ge j (k + 1) with h | h; exact hne j hj1 (by omega); obtain rfl : j = k + 1 := (by omega); exact h2), hO'⟩ (by dsimp only; omega)) ⟨rfl, rfl, rfl, rfl, trivial⟩ (HS.chunk (HS.cons rfl HS.nil))
      · exact ⟨h0, (fun j h1 h2 => by dsimp only at h2; omega), Own.nil⟩
  · exact Nat.zero_le _
end Go.Proofs.YtogljfjbilndnaaGreatDoor.Lathe
