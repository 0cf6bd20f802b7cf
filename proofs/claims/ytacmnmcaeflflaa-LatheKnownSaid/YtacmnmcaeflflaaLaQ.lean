/- Refuse and CheckRefusal, walked. -/
import Derived.Test.YtacmnmcaeflflaaSxA
import Derived.Test.YtacmnmcaeflflaaLaD
import Derived.Test.YtacmnmcaeflflaaLaN
namespace Go.Proofs.Ytacmnmcaeflflaa
open Go.Sx Go.Proofs

section
variable {b : Blank} {A A2 : Option Addr} {l : List Pt} {st : List Stp} {c c2 : Nat} {w : World}
/-- the error of Refuse -/
def refuseE (b : Blank) (l : List Pt) : Int := if both b l = 0 then (if (outer b l).isSome then 5 else 0) else both b l
theorem C_lathe_Refuse (hp : RdL w 2 ePt A l) :
    Con Try.prog 34 [b.val, .slice A l.length c] w (fun y : List Stp × Option Addr × Nat × Items => Own 2 62 eStp y.1 (.slice y.2.1 y.1.length y.2.2.1) y.2.2.2 ∧ (refuseE b l = 0 → 0 < y.1.length ∧ outer b l = none ∧ ∃ rad, Search b l rad y.1) ∧ (refuseE b l ≠ 0 → y.1 = []))
      (fun y => .tuple #[.slice y.2.1 y.1.length y.2.2.1, I (refuseE b l)]) (fun y => y.2.2.2) := by
  by_cases he : both b l = 0
  · obtain ⟨hb, h3, h4⟩ := both_zero.1 he
    have hpb := ptB_of h4
    have hE : refuseE b l = if (outer b l).isSome then 5 else 0 := if_pos he
    refine Ret_of (vs := [_, _]) hm none' Try.func34 rfl Try.ntmps34 rfl ?_
    dsimp only [slotsOf]
    refine GE_seq ?_
    refine GE_plain (.ld 0 [] (.st 1 (.st 2 .nil))) rfl ?_
    refine GT_box (z := [_, _, _, _, _, _]) rfl rfl rfl rfl rfl rfl rfl (fun _ => GR_nil) (fun b2 => ?_)
    refine GT_st rfl rfl rfl rfl (V_assign rfl rfl) ?_
    refine GT_st rfl rfl rfl rfl (V_assign rfl rfl) ?_
    refine GT_nil ?_
    refine GE_seq ?_
    refine GE_plain (.st 0 (.st 1 (.ld 2 [] (.st 3 (.st 4 (.st 5 (.st 6 (.st 7 .nil)))))))) rfl ?_
    refine GT_st rfl rfl rfl rfl (V_loadN (vs := [_, _, _, _, _, _]) rfl rfl ag_23 sz_23 rfl (CellsAt.item rfl)) ?_
    refine GT_st rfl rfl rfl rfl (V_move rfl rfl) ?_
    refine GT_call rfl rfl rfl rfl rfl rfl rfl rfl rn_38 (fun w hw => C_lathe_newSide_ok (hp.sh hw) he) (fun _ _ => GR_nil) (fun bs _ => ?_)
    refine GT_st rfl rfl rfl rfl (V_move rfl rfl) ?_
    refine GT_st rfl rfl rfl rfl (V_extract rfl rfl rfl) ?_
    refine GT_st rfl rfl rfl rfl (V_extract rfl rfl rfl) ?_
    refine GT_st rfl rfl rfl rfl (V_assign rfl rfl) ?_
    refine GT_st rfl rfl rfl rfl (V_assign rfl rfl) ?_
    refine GT_nil ?_
    refine GE_seq ?_
    refine GE_seq ?_
    refine GE_slots (L' := [(6, _), (7, _)]) ⟨rfl, rfl, trivial⟩ ?_
    refine GE_plain (.st 0 (.st 1 .nil)) rfl ?_
    refine GT_st rfl rfl rfl rfl (V_move rfl rfl) ?_
    refine GT_st rfl rfl rfl rfl (V_neq rfl rfl rfl) ?_
    refine GT_nil ?_
    first | refine GE_condNot rfl (fun h1 => ?_) (fun h1 => ?_) | refine GE_cond rfl (fun h1 => ?_) (fun h1 => ?_) | refine GE_condNotB rfl (fun h1 => ?_) (fun h1 => ?_) | refine GE_condB rfl (fun h1 => ?_) (fun h1 => ?_)
    · exact absurd rfl h1
    · skip
      refine GE_skip ?_
      refine GE_seq ?_
      refine GE_plain (.st 0 (.ld 1 [] (.ld 2 [] (.ld 3 [] .nil)))) rfl ?_
      refine GT_st rfl rfl rfl rfl (V_move rfl rfl) ?_
      refine GT_call rfl rfl rfl rfl rfl rfl rfl rfl rn_39 (fun w hw => C_lathe_search (SideAt.of hw) (hp.sh hw) hb h3 h4) (fun _ _ => GR_nil) (fun y hy => ?_)
      obtain ⟨rad, st, ⟨A1, c1, I1⟩, A2, c2, I2⟩ := y; obtain ⟨hS, hO1, hO2⟩ := hy; dsimp only at hS hO1 hO2 ⊢
      refine GT_alloc rfl rfl rfl rfl rfl zc_70 (fun _ => GR_nil) (fun b8 => ?_)
      refine GT_store (vs := [_, _]) (l' := [_, _]) rfl rfl rfl rfl rfl rfl rfl sz_70 rfl rfl (Nat.le_of_ble_eq_true rfl) rfl (GR_nil) ?_
      refine GT_nil ?_
      refine GE_seq ?_
      refine GE_seq ?_
      refine GE_slots (L' := [(8, _)]) ⟨rfl, trivial⟩ ?_
      refine GE_plain (.st 0 (.st 1 (.st 2 (.st 3 .nil)))) rfl ?_
      first | refine GT_st rfl rfl rfl rfl (V_field rfl rfl fo_70_1) ?_ | refine GT_st rfl rfl rfl rfl (V_fieldA rfl rfl fo_70_1) ?_
      refine GT_st rfl rfl rfl rfl (V_load rfl rfl ag_56 (CellAt.item rfl)) ?_
      refine GT_st rfl rfl rfl rfl (V_len rfl Try.underlying56 rfl) ?_
      refine GT_st rfl rfl rfl rfl (V_eql rfl rfl rfl) ?_
      refine GT_nil ?_
      first | refine GE_condNot rfl (fun h5 => ?_) (fun h5 => ?_) | refine GE_cond rfl (fun h5 => ?_) (fun h5 => ?_) | refine GE_condNotB rfl (fun h5 => ?_) (fun h5 => ?_) | refine GE_condB rfl (fun h5 => ?_) (fun h5 => ?_)
      · skip
        refine GE_seq ?_
        refine GE_slots (L' := []) trivial ?_
        refine GE_plain (.st 0 (.st 1 .nil)) rfl ?_
        refine GT_st rfl rfl rfl rfl (V_assign rfl rfl) ?_
        refine GT_st rfl rfl rfl rfl (V_assign rfl rfl) ?_
        refine GT_nil ?_
        refine GE_ret Try.func34 ⟨_, _, rfl, rfl, rfl⟩ (fun w hw => ?_)
        rcases search_outer hb hpb hS with ⟨_, g2⟩ | ⟨g1, _⟩; rw [g2] at hE; exact ⟨([], none, 0, []), ⟨Own.nil, (fun q => by rw [hE] at q; cases q), fun _ => rfl⟩, by rw [hE]; rfl, hw.nil⟩; exact absurd h5 (by omega)
      · skip
        refine GE_skip ?_
        refine GE_seq ?_
        refine GE_slots (L' := [(8, _)]) ⟨rfl, trivial⟩ ?_
        refine GE_plain (.st 0 (.st 1 (.st 2 (.st 3 .nil)))) rfl ?_
        first | refine GT_st rfl rfl rfl rfl (V_field rfl rfl fo_70_1) ?_ | refine GT_st rfl rfl rfl rfl (V_fieldA rfl rfl fo_70_1) ?_
        refine GT_st rfl rfl rfl rfl (V_load rfl rfl ag_56 (CellAt.item rfl)) ?_
        refine GT_st rfl rfl rfl rfl (V_assign rfl rfl) ?_
        refine GT_st rfl rfl rfl rfl (V_assign rfl rfl) ?_
        refine GT_nil ?_
        refine GE_ret Try.func34 ⟨_, _, rfl, rfl, rfl⟩ (fun w hw => ?_)
        rcases search_outer hb hpb hS with ⟨rfl, _⟩ | ⟨g1, g2⟩; exact absurd rfl h5; rw [g2] at hE; exact ⟨(st, A2, c2, I2), ⟨hO2, fun _ => ⟨g1, g2, rad, hS⟩, fun q => absurd hE q⟩, by rw [hE]; rfl, hw.chunk⟩
  · have hE : refuseE b l = both b l := if_neg he
    refine Ret_of (vs := [_, _]) hm none' Try.func34 rfl Try.ntmps34 rfl ?_
    dsimp only [slotsOf]
    refine GE_seq ?_
    refine GE_plain (.ld 0 [] (.st 1 (.st 2 .nil))) rfl ?_
    refine GT_box (z := [_, _, _, _, _, _]) rfl rfl rfl rfl rfl rfl rfl (fun _ => GR_nil) (fun b2 => ?_)
    refine GT_st rfl rfl rfl rfl (V_assign rfl rfl) ?_
    refine GT_st rfl rfl rfl rfl (V_assign rfl rfl) ?_
    refine GT_nil ?_
    refine GE_seq ?_
    refine GE_plain (.st 0 (.st 1 (.ld 2 [] (.st 3 (.st 4 (.st 5 (.st 6 (.st 7 .nil)))))))) rfl ?_
    refine GT_st rfl rfl rfl rfl (V_loadN (vs := [_, _, _, _, _, _]) rfl rfl ag_23 sz_23 rfl (CellsAt.item rfl)) ?_
    refine GT_st rfl rfl rfl rfl (V_move rfl rfl) ?_
    refine GT_call0 rfl rfl rfl rfl rfl rfl rfl rfl rn_38 (fun w hw => C_lathe_newSide_err (hp.sh hw) he) (GR_nil) ?_
    refine GT_st rfl rfl rfl rfl (V_move rfl rfl) ?_
    refine GT_st rfl rfl rfl rfl (V_extract rfl rfl rfl) ?_
    refine GT_st rfl rfl rfl rfl (V_extract rfl rfl rfl) ?_
    refine GT_st rfl rfl rfl rfl (V_assign rfl rfl) ?_
    refine GT_st rfl rfl rfl rfl (V_assign rfl rfl) ?_
    refine GT_nil ?_
    refine GE_seq ?_
    refine GE_seq ?_
    refine GE_slots (L' := [(6, _), (7, _)]) ⟨rfl, rfl, trivial⟩ ?_
    refine GE_plain (.st 0 (.st 1 .nil)) rfl ?_
    refine GT_st rfl rfl rfl rfl (V_move rfl rfl) ?_
    refine GT_st rfl rfl rfl rfl (V_neq rfl rfl rfl) ?_
    refine GT_nil ?_
    first | refine GE_condNot rfl (fun h5 => ?_) (fun h5 => ?_) | refine GE_cond rfl (fun h5 => ?_) (fun h5 => ?_) | refine GE_condNotB rfl (fun h5 => ?_) (fun h5 => ?_) | refine GE_condB rfl (fun h5 => ?_) (fun h5 => ?_)
    · skip
      refine GE_seq ?_
      refine GE_plain (.st 0 (.st 1 (.st 2 .nil))) rfl ?_
      refine GT_st rfl rfl rfl rfl (V_move rfl rfl) ?_
      refine GT_st rfl rfl rfl rfl (V_assign rfl rfl) ?_
      refine GT_st rfl rfl rfl rfl (V_assign rfl rfl) ?_
      refine GT_nil ?_
      refine GE_ret Try.func34 ⟨_, _, rfl, rfl, rfl⟩ (fun w hw => ?_)
      exact ⟨([], none, 0, []), ⟨Own.nil, fun q => absurd (hE ▸ q) he, fun _ => rfl⟩, by rw [hE]; rfl, hw.nil⟩
    · exact absurd h5 he

/-- Weigh: what the reference says of a step -/
theorem C_ref05_Weigh {rule samp : Int} (hp : RdL w 2 ePt A l) (hb : b.ok = true) (hpb : PtB l) (hl : l.length ≤ 4096) :
    Con Try.prog 69 [b.val, .slice A l.length c, .agg #[I rule, I samp]] w (fun x : Int × Int × Int => (edgeOf b l rule samp).2 = true → x = ((edgeOf b l rule samp).1.frm, (edgeOf b l rule samp).1.to, (edgeOf b l rule samp).1.wt))
      (fun x => .tuple #[I x.1, I x.2.1, I x.2.2, .bool (edgeOf b l rule samp).2]) (fun _ => []) := by
  have hbo := Blank.ok_iff.1 hb
  have hout : ¬ In l.length samp → (edgeOf b l rule samp).2 = false := fun h => by unfold In at h; unfold edgeOf; rw [if_pos (by omega)]
  refine Ret_of (vs := [_, _, _]) hm none' Try.func69 rfl Try.ntmps69 rfl ?_
  dsimp only [slotsOf]
  refine GE_seq ?_
  refine GE_plain (.ld 0 [] (.ld 1 [] (.st 2 (.st 3 (.st 4 (.st 5 .nil)))))) rfl ?_
  refine GT_box (z := [_, _, _, _, _, _]) rfl rfl rfl rfl rfl rfl rfl (fun _ => GR_nil) (fun b3 => ?_)
  refine GT_box (z := [_, _]) rfl rfl rfl rfl rfl rfl rfl (fun _ => GR_nil) (fun b5 => ?_)
  refine GT_st rfl rfl rfl rfl (V_assign rfl rfl) ?_
  refine GT_st rfl rfl rfl rfl (V_assign rfl rfl) ?_
  refine GT_st rfl rfl rfl rfl (V_assign rfl rfl) ?_
  refine GT_st rfl rfl rfl rfl (V_assign rfl rfl) ?_
  refine GT_nil ?_
  refine GE_seq ?_
  refine GE_slots (L' := [(1, _), (3, _), (5, _)]) ⟨rfl, rfl, rfl, trivial⟩ ?_
  refine GE_drawn (.st 0 (.st 1 (.st 2 (.st 3 (.st 4 (.st 5 .nil)))))) [] (by decide +kernel) ?_
  first | refine GT_st rfl rfl rfl rfl (V_field rfl rfl fo_62_1) ?_ | refine GT_st rfl rfl rfl rfl (V_fieldA rfl rfl fo_62_1) ?_
  refine GT_st rfl rfl rfl rfl (V_load rfl rfl ag_3 (CellAt.item rfl)) ?_
  first | refine GT_st rfl rfl rfl rfl (V_field rfl rfl fo_23_0) ?_ | refine GT_st rfl rfl rfl rfl (V_fieldA rfl rfl fo_23_0) ?_
  refine GT_st rfl rfl rfl rfl (V_load rfl rfl ag_2 (CellAt.item rfl)) ?_
  refine GT_st rfl rfl rfl rfl (V_assign rfl rfl) ?_
  refine GT_st rfl rfl rfl rfl (V_assign rfl rfl) ?_
  refine GT_nil ?_
  refine GE_seq ?_
  refine GE_seq ?_
  refine GE_slots (L' := [(1, _), (3, _), (5, _), (10, _), (11, _)]) ⟨rfl, rfl, rfl, rfl, rfl, trivial⟩ ?_
  refine GE_plain (.st 0 (.st 1 (.st 2 (.st 3 (.st 4 (.st 5 (.st 6 (.st 7 .nil)))))))) rfl ?_
  refine GT_st rfl rfl rfl rfl (V_move rfl rfl) ?_
  refine GT_st rfl rfl rfl rfl (V_lss rfl rfl rfl) ?_
  refine GT_st rfl rfl rfl rfl (V_move rfl rfl) ?_
  first | refine GT_splitNot (d := 18) rfl (fun h1 => ?_) (fun h1 => ?_) | refine GT_split (d := 18) rfl (fun h1 => ?_) (fun h1 => ?_) | refine GT_splitNotB (d := 18) rfl (fun h1 => ?_) (fun h1 => ?_) | refine GT_splitB (d := 18) rfl (fun h1 => ?_) (fun h1 => ?_)
  · have hf := hout (fun q => by unfold In at q; omega)
    refine GT_skip rfl rfl rfl rfl rfl (by decide) rfl rfl ?_
    refine GT_skip rfl rfl rfl rfl rfl (by decide) rfl rfl ?_
    refine GT_skip rfl rfl rfl rfl rfl (by decide) rfl rfl ?_
    refine GT_skip rfl rfl rfl rfl rfl (by decide) rfl rfl ?_
    refine GT_st rfl rfl rfl rfl (V_pick_t rfl rfl rfl) ?_
    refine GT_nil ?_
    refine GE_cond_t rfl ?_
    refine GE_seq ?_
    refine GE_slots (L' := []) trivial ?_
    refine GE_plain (.st 0 (.st 1 (.st 2 (.st 3 .nil)))) rfl ?_
    refine GT_st rfl rfl rfl rfl (V_assign rfl rfl) ?_
    refine GT_st rfl rfl rfl rfl (V_assign rfl rfl) ?_
    refine GT_st rfl rfl rfl rfl (V_assign rfl rfl) ?_
    refine GT_st rfl rfl rfl rfl (V_assign rfl rfl) ?_
    refine GT_nil ?_
    refine GE_ret Try.func69 ⟨_, _, _, _, rfl, rfl, rfl, rfl, rfl⟩ (fun w hw => ?_)
    exact ⟨(0, 0, 0), (fun q => by rw [hf] at q; cases q), by rw [hf], hw.nil⟩
  · skip
    refine GT_st_g rfl rfl rfl rfl rfl rfl rfl (V_move rfl rfl) ?_
    refine GT_st_g rfl rfl rfl rfl rfl rfl rfl (V_move rfl rfl) ?_
    refine GT_st_g rfl rfl rfl rfl rfl rfl rfl (V_len rfl Try.underlying24 rfl) ?_
    refine GT_st_g rfl rfl rfl rfl rfl rfl rfl (V_geq rfl rfl rfl) ?_
    refine GT_st rfl rfl rfl rfl (V_pick_f rfl rfl rfl) ?_
    refine GT_nil ?_
    first | refine GE_condNot rfl (fun h2 => ?_) (fun h2 => ?_) | refine GE_cond rfl (fun h2 => ?_) (fun h2 => ?_) | refine GE_condNotB rfl (fun h2 => ?_) (fun h2 => ?_) | refine GE_condB rfl (fun h2 => ?_) (fun h2 => ?_)
    · have hf := hout (fun q => by unfold In at q; omega)
      refine GE_seq ?_
      refine GE_slots (L' := []) trivial ?_
      refine GE_plain (.st 0 (.st 1 (.st 2 (.st 3 .nil)))) rfl ?_
      refine GT_st rfl rfl rfl rfl (V_assign rfl rfl) ?_
      refine GT_st rfl rfl rfl rfl (V_assign rfl rfl) ?_
      refine GT_st rfl rfl rfl rfl (V_assign rfl rfl) ?_
      refine GT_st rfl rfl rfl rfl (V_assign rfl rfl) ?_
      refine GT_nil ?_
      refine GE_ret Try.func69 ⟨_, _, _, _, rfl, rfl, rfl, rfl, rfl⟩ (fun w hw => ?_)
      exact ⟨(0, 0, 0), (fun q => by rw [hf] at q; cases q), by rw [hf], hw.nil⟩
    · obtain ⟨i, rfl⟩ : ∃ i : Nat, samp = i := ⟨samp.toNat, by omega⟩
      have hil : i < l.length := (by omega)
      have hIn : In l.length (i : Int) := ⟨by omega, by omega⟩
      have hp1 := hpb i hil
      refine GE_skip ?_
      refine GE_seq ?_
      refine GE_seq ?_
      refine GE_slots (L' := [(1, _), (3, _), (5, _), (10, _), (11, _)]) ⟨rfl, rfl, rfl, rfl, rfl, trivial⟩ ?_
      refine GE_plain (.st 0 (.st 1 .nil)) rfl ?_
      first | refine GT_st rfl rfl rfl rfl (V_field rfl rfl fo_62_0) ?_ | refine GT_st rfl rfl rfl rfl (V_fieldA rfl rfl fo_62_0) ?_
      refine GT_st rfl rfl rfl rfl (V_load rfl rfl ag_3 (CellAt.item rfl)) ?_
      refine GT_nil ?_
      refine GE_block ?_
      refine GE_seq ?_
      refine GE_plain (.st 0 (.st 1 .nil)) rfl ?_
      refine GT_st rfl rfl rfl rfl (V_eql rfl rfl rfl) ?_
      refine GT_st rfl rfl rfl rfl (V_assign rfl rfl) ?_
      refine GT_nil ?_
      first | refine GE_condNot rfl (fun h3 => ?_) (fun h3 => ?_) | refine GE_cond rfl (fun h3 => ?_) (fun h3 => ?_) | refine GE_condNotB rfl (fun h3 => ?_) (fun h3 => ?_) | refine GE_condB rfl (fun h3 => ?_) (fun h3 => ?_)
      · subst h3
        refine GE_seq ?_
        refine GE_slots (L' := [(1, _), (3, _), (10, _)]) ⟨rfl, rfl, rfl, trivial⟩ ?_
        refine GE_drawn (.st 0 (.st 1 (.st 2 (.st 3 (.st 4 (.st 5 (.st 6 (.st 7 (.st 8 (.st 9 (.st 10 (.st 11 (.st 12 .nil))))))))))))) [] (by decide +kernel) ?_
        refine GT_st rfl rfl rfl rfl (V_move rfl rfl) ?_
        first | refine GT_st rfl rfl rfl rfl (V_field rfl rfl fo_23_1) ?_ | refine GT_st rfl rfl rfl rfl (V_fieldA rfl rfl fo_23_1) ?_
        refine GT_st rfl rfl rfl rfl (V_load rfl rfl ag_2 (CellAt.item rfl)) ?_
        refine GT_st rfl rfl rfl rfl (V_move rfl rfl) ?_
        refine GT_st rfl rfl rfl rfl (V_move rfl rfl) ?_
        refine GT_st rfl rfl rfl rfl (V_index rfl rfl rfl Try.underlying24 sz_39 (k := i) rfl hil (hp.isSome hil)) ?_
        first | refine GT_st rfl rfl rfl rfl (V_field rfl rfl fo_39_1) ?_ | refine GT_st rfl rfl rfl rfl (V_fieldA rfl rfl fo_39_1) ?_
        refine GT_st rfl rfl rfl rfl (V_load rfl rfl ag_2 (hp.at1 noM hil rfl)) ?_
        refine GT_st rfl rfl rfl rfl (V_sub rfl rfl rfl (wrap_i64 (by omega))) ?_
        refine GT_st rfl rfl rfl rfl (V_assign rfl rfl) ?_
        refine GT_st rfl rfl rfl rfl (V_assign rfl rfl) ?_
        refine GT_st rfl rfl rfl rfl (V_assign rfl rfl) ?_
        refine GT_st rfl rfl rfl rfl (V_assign rfl rfl) ?_
        refine GT_nil ?_
        refine GE_ret Try.func69 ⟨_, _, _, _, rfl, rfl, rfl, rfl, rfl⟩ (fun w hw => ?_)
        exact ⟨(-1, (i : Int), b.rim - (l.getD i default).out), fun _ => by rw [edgeOf_one hIn, Int.toNat_natCast], by rw [edgeOf_one hIn], hw.nil⟩
      · skip
        refine GE_seq ?_
        refine GE_slots (L' := [(1, _), (3, _), (10, _), (11, _), (25, _)]) ⟨rfl, rfl, rfl, rfl, rfl, trivial⟩ ?_
        refine GE_plain (.st 0 (.st 1 .nil)) rfl ?_
        refine GT_st rfl rfl rfl rfl (V_eql rfl rfl rfl) ?_
        refine GT_st rfl rfl rfl rfl (V_assign rfl rfl) ?_
        refine GT_nil ?_
        first | refine GE_condNot rfl (fun h4 => ?_) (fun h4 => ?_) | refine GE_cond rfl (fun h4 => ?_) (fun h4 => ?_) | refine GE_condNotB rfl (fun h4 => ?_) (fun h4 => ?_) | refine GE_condB rfl (fun h4 => ?_) (fun h4 => ?_)
        · subst h4
          refine GE_seq ?_
          refine GE_slots (L' := [(1, _), (3, _), (10, _)]) ⟨rfl, rfl, rfl, trivial⟩ ?_
          refine GE_drawn (.st 0 (.st 1 (.st 2 (.st 3 (.st 4 (.st 5 (.st 6 (.st 7 (.st 8 (.st 9 (.st 10 (.st 11 (.st 12 .nil))))))))))))) [] (by decide +kernel) ?_
          refine GT_st rfl rfl rfl rfl (V_move rfl rfl) ?_
          refine GT_st rfl rfl rfl rfl (V_move rfl rfl) ?_
          refine GT_st rfl rfl rfl rfl (V_move rfl rfl) ?_
          refine GT_st rfl rfl rfl rfl (V_index rfl rfl rfl Try.underlying24 sz_39 (k := i) rfl hil (hp.isSome hil)) ?_
          first | refine GT_st rfl rfl rfl rfl (V_field rfl rfl fo_39_0) ?_ | refine GT_st rfl rfl rfl rfl (V_fieldA rfl rfl fo_39_0) ?_
          refine GT_st rfl rfl rfl rfl (V_load rfl rfl ag_2 (hp.at0 noM hil rfl)) ?_
          first | refine GT_st rfl rfl rfl rfl (V_field rfl rfl fo_23_2) ?_ | refine GT_st rfl rfl rfl rfl (V_fieldA rfl rfl fo_23_2) ?_
          refine GT_st rfl rfl rfl rfl (V_load rfl rfl ag_2 (CellAt.item rfl)) ?_
          refine GT_st rfl rfl rfl rfl (V_sub rfl rfl rfl (wrap_i64 (by omega))) ?_
          refine GT_st rfl rfl rfl rfl (V_assign rfl rfl) ?_
          refine GT_st rfl rfl rfl rfl (V_assign rfl rfl) ?_
          refine GT_st rfl rfl rfl rfl (V_assign rfl rfl) ?_
          refine GT_st rfl rfl rfl rfl (V_assign rfl rfl) ?_
          refine GT_nil ?_
          refine GE_ret Try.func69 ⟨_, _, _, _, rfl, rfl, rfl, rfl, rfl⟩ (fun w hw => ?_)
          exact ⟨((i : Int), -1, (l.getD i default).inn - b.core), fun _ => by rw [edgeOf_two hIn, Int.toNat_natCast], by rw [edgeOf_two hIn], hw.nil⟩
        · skip
          refine GE_seq ?_
          refine GE_plain (.st 0 (.st 1 .nil)) rfl ?_
          refine GT_st rfl rfl rfl rfl (V_eql rfl rfl rfl) ?_
          refine GT_st rfl rfl rfl rfl (V_assign rfl rfl) ?_
          refine GT_nil ?_
          first | refine GE_condNot rfl (fun h5 => ?_) (fun h5 => ?_) | refine GE_cond rfl (fun h5 => ?_) (fun h5 => ?_) | refine GE_condNotB rfl (fun h5 => ?_) (fun h5 => ?_) | refine GE_condB rfl (fun h5 => ?_) (fun h5 => ?_)
          · subst h5
            refine GE_seq ?_
            refine GE_slots (L' := [(3, _), (10, _)]) ⟨rfl, rfl, trivial⟩ ?_
            refine GE_drawn (.st 0 (.st 1 (.st 2 (.st 3 (.st 4 (.st 5 (.st 6 (.st 7 (.st 8 (.st 9 (.st 10 (.st 11 .nil)))))))))))) [] (by decide +kernel) ?_
            refine GT_st rfl rfl rfl rfl (V_move rfl rfl) ?_
            refine GT_st rfl rfl rfl rfl (V_sub rfl rfl rfl (wrap_i64 (by omega))) ?_
            refine GT_st rfl rfl rfl rfl (V_move rfl rfl) ?_
            first | refine GT_st rfl rfl rfl rfl (V_field rfl rfl fo_23_4) ?_ | refine GT_st rfl rfl rfl rfl (V_fieldA rfl rfl fo_23_4) ?_
            refine GT_st rfl rfl rfl rfl (V_load rfl rfl ag_2 (CellAt.item rfl)) ?_
            refine GT_st rfl rfl rfl rfl (V_neg rfl rfl (wrap_i64 (by omega))) ?_
            refine GT_st rfl rfl rfl rfl (V_move rfl rfl) ?_
            refine GT_st rfl rfl rfl rfl (V_gtr rfl rfl rfl) ?_
            refine GT_st rfl rfl rfl rfl (V_assign rfl rfl) ?_
            refine GT_st rfl rfl rfl rfl (V_assign rfl rfl) ?_
            refine GT_st rfl rfl rfl rfl (V_assign rfl rfl) ?_
            refine GT_st rfl rfl rfl rfl (V_assign rfl rfl) ?_
            refine GT_nil ?_
            refine GE_ret Try.func69 ⟨_, _, _, _, rfl, rfl, rfl, rfl, rfl⟩ (fun w hw => ?_)
            exact ⟨((i : Int) - 1, (i : Int), 0 - b.slow), fun _ => by rw [edgeOf_three hIn], by rw [edgeOf_three hIn], hw.nil⟩
          · skip
            refine GE_seq ?_
            refine GE_slots (L' := [(1, _), (3, _), (10, _), (11, _), (25, _)]) ⟨rfl, rfl, rfl, rfl, rfl, trivial⟩ ?_
            refine GE_plain (.st 0 (.st 1 .nil)) rfl ?_
            refine GT_st rfl rfl rfl rfl (V_eql rfl rfl rfl) ?_
            refine GT_st rfl rfl rfl rfl (V_assign rfl rfl) ?_
            refine GT_nil ?_
            first | refine GE_condNot rfl (fun h6 => ?_) (fun h6 => ?_) | refine GE_cond rfl (fun h6 => ?_) (fun h6 => ?_) | refine GE_condNotB rfl (fun h6 => ?_) (fun h6 => ?_) | refine GE_condB rfl (fun h6 => ?_) (fun h6 => ?_)
            · subst h6
              refine GE_seq ?_
              refine GE_slots (L' := [(3, _), (10, _)]) ⟨rfl, rfl, trivial⟩ ?_
              refine GE_drawn (.st 0 (.st 1 (.st 2 (.st 3 (.st 4 (.st 5 (.st 6 (.st 7 (.st 8 (.st 9 (.st 10 .nil))))))))))) [] (by decide +kernel) ?_
              refine GT_st rfl rfl rfl rfl (V_move rfl rfl) ?_
              refine GT_st rfl rfl rfl rfl (V_move rfl rfl) ?_
              refine GT_st rfl rfl rfl rfl (V_sub rfl rfl rfl (wrap_i64 (by omega))) ?_
              first | refine GT_st rfl rfl rfl rfl (V_field rfl rfl fo_23_5) ?_ | refine GT_st rfl rfl rfl rfl (V_fieldA rfl rfl fo_23_5) ?_
              refine GT_st rfl rfl rfl rfl (V_load rfl rfl ag_2 (CellAt.item rfl)) ?_
              refine GT_st rfl rfl rfl rfl (V_move rfl rfl) ?_
              refine GT_st rfl rfl rfl rfl (V_gtr rfl rfl rfl) ?_
              refine GT_st rfl rfl rfl rfl (V_assign rfl rfl) ?_
              refine GT_st rfl rfl rfl rfl (V_assign rfl rfl) ?_
              refine GT_st rfl rfl rfl rfl (V_assign rfl rfl) ?_
              refine GT_st rfl rfl rfl rfl (V_assign rfl rfl) ?_
              refine GT_nil ?_
              refine GE_ret Try.func69 ⟨_, _, _, _, rfl, rfl, rfl, rfl, rfl⟩ (fun w hw => ?_)
              exact ⟨((i : Int), (i : Int) - 1, b.fast), fun _ => by rw [edgeOf_four hIn], by rw [edgeOf_four hIn], hw.nil⟩
            · skip
              refine GE_seq ?_
              refine GE_plain (.st 0 (.st 1 .nil)) rfl ?_
              refine GT_st rfl rfl rfl rfl (V_eql rfl rfl rfl) ?_
              refine GT_st rfl rfl rfl rfl (V_assign rfl rfl) ?_
              refine GT_nil ?_
              first | refine GE_condNot rfl (fun h7 => ?_) (fun h7 => ?_) | refine GE_cond rfl (fun h7 => ?_) (fun h7 => ?_) | refine GE_condNotB rfl (fun h7 => ?_) (fun h7 => ?_) | refine GE_condB rfl (fun h7 => ?_) (fun h7 => ?_)
              · subst h7
                refine GE_seq ?_
                refine GE_seq ?_
                refine GE_slots (L' := [(1, _), (3, _), (10, _), (11, _)]) ⟨rfl, rfl, rfl, rfl, trivial⟩ ?_
                refine GE_plain (.st 0 (.st 1 (.st 2 .nil))) rfl ?_
                refine GT_st rfl rfl rfl rfl (V_move rfl rfl) ?_
                refine GT_st rfl rfl rfl rfl (V_move rfl rfl) ?_
                refine GT_st rfl rfl rfl rfl (V_lss rfl rfl rfl) ?_
                refine GT_nil ?_
                first | refine GE_condNot rfl (fun h8 => ?_) (fun h8 => ?_) | refine GE_cond rfl (fun h8 => ?_) (fun h8 => ?_) | refine GE_condNotB rfl (fun h8 => ?_) (fun h8 => ?_) | refine GE_condB rfl (fun h8 => ?_) (fun h8 => ?_)
                · skip
                  refine GE_seq ?_
                  refine GE_slots (L' := []) trivial ?_
                  refine GE_plain (.st 0 (.st 1 (.st 2 (.st 3 .nil)))) rfl ?_
                  refine GT_st rfl rfl rfl rfl (V_assign rfl rfl) ?_
                  refine GT_st rfl rfl rfl rfl (V_assign rfl rfl) ?_
                  refine GT_st rfl rfl rfl rfl (V_assign rfl rfl) ?_
                  refine GT_st rfl rfl rfl rfl (V_assign rfl rfl) ?_
                  refine GT_nil ?_
                  refine GE_ret Try.func69 ⟨_, _, _, _, rfl, rfl, rfl, rfl, rfl⟩ (fun w hw => ?_)
                  have hf : (edgeOf b l 5 i).2 = false := (by rw [edgeOf_five hIn, if_pos h8]); exact ⟨(0, 0, 0), (fun q => by rw [hf] at q; cases q), by rw [hf], hw.nil⟩
                · have hp2 := hpb (i - b.per.toNat) (by omega)
                  refine GE_skip ?_
                  refine GE_seq ?_
                  refine GE_drawn (.st 0 (.st 1 (.st 2 (.st 3 (.st 4 (.st 5 (.st 6 (.st 7 (.st 8 (.st 9 (.st 10 (.st 11 (.st 12 (.st 13 (.st 14 (.st 15 (.st 16 (.st 17 (.st 18 (.st 19 (.st 20 (.st 21 (.st 22 (.st 23 .nil)))))))))))))))))))))))) [] (by decide +kernel) ?_
                  refine GT_st rfl rfl rfl rfl (V_move rfl rfl) ?_
                  refine GT_st rfl rfl rfl rfl (V_move rfl rfl) ?_
                  refine GT_st rfl rfl rfl rfl (V_sub rfl rfl rfl (wrap_i64 (by omega))) ?_
                  refine GT_st rfl rfl rfl rfl (V_move rfl rfl) ?_
                  refine GT_st rfl rfl rfl rfl (V_move rfl rfl) ?_
                  refine GT_st rfl rfl rfl rfl (V_move rfl rfl) ?_
                  refine GT_st rfl rfl rfl rfl (V_move rfl rfl) ?_
                  refine GT_st rfl rfl rfl rfl (V_sub rfl rfl rfl (wrap_i64 (by omega))) ?_
                  refine GT_st rfl rfl rfl rfl (V_index rfl rfl rfl Try.underlying24 sz_39 (k := i - b.per.toNat) (by omega) (by omega) (hp.isSome hil)) ?_
                  first | refine GT_st rfl rfl rfl rfl (V_field rfl rfl fo_39_0) ?_ | refine GT_st rfl rfl rfl rfl (V_fieldA rfl rfl fo_39_0) ?_
                  refine GT_st rfl rfl rfl rfl (V_load rfl rfl ag_2 (hp.at0 noM (by omega) rfl)) ?_
                  refine GT_st rfl rfl rfl rfl (V_move rfl rfl) ?_
                  refine GT_st rfl rfl rfl rfl (V_move rfl rfl) ?_
                  refine GT_st rfl rfl rfl rfl (V_index rfl rfl rfl Try.underlying24 sz_39 (k := i) rfl hil (hp.isSome hil)) ?_
                  first | refine GT_st rfl rfl rfl rfl (V_field rfl rfl fo_39_1) ?_ | refine GT_st rfl rfl rfl rfl (V_fieldA rfl rfl fo_39_1) ?_
                  refine GT_st rfl rfl rfl rfl (V_load rfl rfl ag_2 (hp.at1 noM hil rfl)) ?_
                  refine GT_st rfl rfl rfl rfl (V_sub rfl rfl rfl (wrap_i64 (by omega))) ?_
                  first | refine GT_st rfl rfl rfl rfl (V_field rfl rfl fo_23_3) ?_ | refine GT_st rfl rfl rfl rfl (V_fieldA rfl rfl fo_23_3) ?_
                  refine GT_st rfl rfl rfl rfl (V_load rfl rfl ag_2 (CellAt.item rfl)) ?_
                  refine GT_st rfl rfl rfl rfl (V_sub rfl rfl rfl (wrap_i64 (by omega))) ?_
                  refine GT_st rfl rfl rfl rfl (V_assign rfl rfl) ?_
                  refine GT_st rfl rfl rfl rfl (V_assign rfl rfl) ?_
                  refine GT_st rfl rfl rfl rfl (V_assign rfl rfl) ?_
                  refine GT_st rfl rfl rfl rfl (V_assign rfl rfl) ?_
                  refine GT_nil ?_
                  refine GE_ret Try.func69 ⟨_, _, _, _, rfl, rfl, rfl, rfl, rfl⟩ (fun w hw => ?_)
                  have e5 : edgeOf b l 5 i = _ := (edgeOf_five hIn).trans (if_neg h8); exact ⟨((i : Int) - b.per, (i : Int), (l.getD (i - b.per.toNat) default).inn - (l.getD i default).out - b.land), fun _ => by rw [e5, Int.toNat_natCast, show ((i : Int) - b.per).toNat = i - b.per.toNat by omega], by rw [e5], hw.nil⟩
              · skip
                refine GE_skip ?_
                refine GE_inBlock ?_
                refine GE_seq ?_
                refine GE_slots (L' := []) trivial ?_
                refine GE_plain (.st 0 (.st 1 (.st 2 (.st 3 .nil)))) rfl ?_
                refine GT_st rfl rfl rfl rfl (V_assign rfl rfl) ?_
                refine GT_st rfl rfl rfl rfl (V_assign rfl rfl) ?_
                refine GT_st rfl rfl rfl rfl (V_assign rfl rfl) ?_
                refine GT_st rfl rfl rfl rfl (V_assign rfl rfl) ?_
                refine GT_nil ?_
                refine GE_ret Try.func69 ⟨_, _, _, _, rfl, rfl, rfl, rfl, rfl⟩ (fun w hw => ?_)
                have hf : (edgeOf b l rule i).2 = false := (by unfold edgeOf; rw [if_neg (by omega), if_neg h3, if_neg h4, if_neg h5, if_neg h6, if_neg h7]); exact ⟨(0, 0, 0), (fun q => by rw [hf] at q; cases q), by rw [hf], hw.nil⟩

set_option maxRecDepth 10000 in
theorem C_lathe_CheckRefusal (hp : RdL w 2 ePt A l) (hs : RdL w 2 eStp A2 st) (hls : st.length ≤ 1099511627776) :
    Con0 Try.prog 35 [b.val, .slice A l.length c, .slice A2 st.length c2] w (I (refE b l st)) := by
  by_cases he : both b l = 0
  · obtain ⟨hb, h3, h4⟩ := both_zero.1 he
    have hpb := ptB_of h4
    have hE : refE b l st = if 16384 < st.length then 6 else if provesB b l st then 0 else 16 := if_pos he
    refine Ret_of (vs := [_, _, _]) hm none' Try.func35 rfl Try.ntmps35 rfl ?_
    dsimp only [slotsOf]
    refine GE_seq ?_
    refine GE_plain (.ld 0 [] (.st 1 .nil)) rfl ?_
    refine GT_box (z := [_, _, _, _, _, _]) rfl rfl rfl rfl rfl rfl rfl (fun _ => GR_nil) (fun b3 => ?_)
    refine GT_st rfl rfl rfl rfl (V_assign rfl rfl) ?_
    refine GT_nil ?_
    refine GE_seq ?_
    refine GE_plain (.st 0 (.st 1 (.ld 2 [] (.st 3 (.st 4 (.st 5 (.st 6 (.st 7 .nil)))))))) rfl ?_
    refine GT_st rfl rfl rfl rfl (V_loadN (vs := [_, _, _, _, _, _]) rfl rfl ag_23 sz_23 rfl (CellsAt.item rfl)) ?_
    refine GT_st rfl rfl rfl rfl (V_move rfl rfl) ?_
    refine GT_call rfl rfl rfl rfl rfl rfl rfl rfl rn_38 (fun w hw => C_lathe_newSide_ok (hp.sh hw) he) (fun _ _ => GR_nil) (fun bs _ => ?_)
    refine GT_st rfl rfl rfl rfl (V_move rfl rfl) ?_
    refine GT_st rfl rfl rfl rfl (V_extract rfl rfl rfl) ?_
    refine GT_st rfl rfl rfl rfl (V_extract rfl rfl rfl) ?_
    refine GT_st rfl rfl rfl rfl (V_assign rfl rfl) ?_
    refine GT_st rfl rfl rfl rfl (V_assign rfl rfl) ?_
    refine GT_nil ?_
    refine GE_seq ?_
    refine GE_seq ?_
    refine GE_slots (L' := [(2, _), (7, _), (8, _)]) ⟨rfl, rfl, rfl, trivial⟩ ?_
    refine GE_plain (.st 0 (.st 1 .nil)) rfl ?_
    refine GT_st rfl rfl rfl rfl (V_move rfl rfl) ?_
    refine GT_st rfl rfl rfl rfl (V_neq rfl rfl rfl) ?_
    refine GT_nil ?_
    first | refine GE_condNot rfl (fun h1 => ?_) (fun h1 => ?_) | refine GE_cond rfl (fun h1 => ?_) (fun h1 => ?_) | refine GE_condNotB rfl (fun h1 => ?_) (fun h1 => ?_) | refine GE_condB rfl (fun h1 => ?_) (fun h1 => ?_)
    · exact absurd rfl h1
    · skip
      refine GE_skip ?_
      refine GE_seq ?_
      refine GE_seq ?_
      refine GE_plain (.st 0 (.st 1 (.st 2 .nil))) rfl ?_
      refine GT_st rfl rfl rfl rfl (V_move rfl rfl) ?_
      refine GT_st rfl rfl rfl rfl (V_len rfl Try.underlying56 rfl) ?_
      refine GT_st rfl rfl rfl rfl (V_gtr rfl rfl rfl) ?_
      refine GT_nil ?_
      first | refine GE_condNot rfl (fun h2 => ?_) (fun h2 => ?_) | refine GE_cond rfl (fun h2 => ?_) (fun h2 => ?_) | refine GE_condNotB rfl (fun h2 => ?_) (fun h2 => ?_) | refine GE_condB rfl (fun h2 => ?_) (fun h2 => ?_)
      · skip
        refine GE_seq ?_
        refine GE_slots (L' := []) trivial ?_
        refine GE_plain (.st 0 .nil) rfl ?_
        refine GT_st rfl rfl rfl rfl (V_assign rfl rfl) ?_
        refine GT_nil ?_
        refine GE_ret Try.func35 rfl (fun w hw => ⟨?_, hw.nil⟩)
        rw [hE, if_pos (by omega)]
      · skip
        refine GE_skip ?_
        refine GE_seq ?_
        refine GE_seq ?_
        refine GE_slots (L' := [(2, _), (7, _)]) ⟨rfl, rfl, trivial⟩ ?_
        refine GE_plain (.st 0 (.st 1 (.st 2 .nil))) rfl ?_
        refine GT_st rfl rfl rfl rfl (V_move rfl rfl) ?_
        refine GT_st rfl rfl rfl rfl (V_len rfl Try.underlying56 rfl) ?_
        refine GT_st rfl rfl rfl rfl (V_eql rfl rfl rfl) ?_
        refine GT_nil ?_
        first | refine GE_condNot rfl (fun h5 => ?_) (fun h5 => ?_) | refine GE_cond rfl (fun h5 => ?_) (fun h5 => ?_) | refine GE_condNotB rfl (fun h5 => ?_) (fun h5 => ?_) | refine GE_condB rfl (fun h5 => ?_) (fun h5 => ?_)
        · have hnil : st = [] := List.eq_nil_of_length_eq_zero (by omega)
          refine GE_seq ?_
          refine GE_slots (L' := []) trivial ?_
          refine GE_plain (.st 0 .nil) rfl ?_
          refine GT_st rfl rfl rfl rfl (V_assign rfl rfl) ?_
          refine GT_nil ?_
          refine GE_ret Try.func35 rfl (fun w hw => ⟨?_, hw.nil⟩)
          subst hnil; rw [hE]; rfl
        · have hne : st ≠ [] := (fun q => h5 (by rw [q]; rfl))
          refine GE_skip ?_
          refine GE_cut (ι := Nat) (fun b9 => [(2, .slice A2 st.length c2), (7, ptr bs 0), (9, ptr b9 0)]) (fun b9 => [(b9, blk (eEdge (edgeOf b l (st.getD 0 default).rule (st.getD 0 default).samp).1) 97), (bs, blk (sideCells b A l c) 92)]) (fun b9 => True) ?_ (fun hk9 => ?_)
          · intro b9 _
            refine GE_seq ?_
            refine GE_plain (.st 0 (.st 1 (.st 2 (.st 3 .nil)))) rfl ?_
            first | refine GT_st rfl rfl rfl rfl (V_field rfl rfl fo_97_1) ?_ | refine GT_st rfl rfl rfl rfl (V_fieldA rfl rfl fo_97_1) ?_
            refine GT_st rfl rfl rfl rfl (V_load rfl rfl ag_3 (CellAt.item rfl)) ?_
            refine GT_st rfl rfl rfl rfl (V_assign rfl rfl) ?_
            refine GT_st rfl rfl rfl rfl (V_assign rfl rfl) ?_
            refine GT_nil ?_
            refine GE_seq ?_
            refine GE_seq ?_
            refine GE_plain (.st 0 (.st 1 (.st 2 .nil))) rfl ?_
            refine GT_st rfl rfl rfl rfl (V_move rfl rfl) ?_
            refine GT_st rfl rfl rfl rfl (V_len rfl Try.underlying56 rfl) ?_
            refine GT_st rfl rfl rfl rfl (V_move rfl rfl) ?_
            refine GT_nil ?_
            refine GE_block ?_
            refine GE_to (GE_loop (ι := Nat × Int × Int) (fun x => st.length - x.1) (fun x => [(7, ptr bs 0), (9, ptr b9 0), (11, I x.2.1), (12, I x.2.2), (47, .slice A2 st.length c2), (48, I st.length), (49, I x.1)]) (fun x => [(b9, blk (eEdge (edgeOf b l (st.getD 0 default).rule (st.getD 0 default).samp).1) 97), (bs, blk (sideCells b A l c) 92)]) (fun x => x.1 ≤ st.length ∧ pfold b l (st.take x.1) (frm0 b l st) = some (x.1, x.2.1, x.2.2) ∧ (x.1 = 0 → x.2.1 = frm0 b l st)) ?_ (0, frm0 b l st, 0) ?_) ⟨rfl, rfl, rfl, rfl, rfl, rfl, rfl, trivial⟩ (HS.cons rfl (HS.cons rfl HS.nil))
            · rintro ⟨k, pl, sum⟩ ⟨hk, hfo, hk0⟩ ih; dsimp only at hk hfo hk0 ih ⊢; have hbd := pfold_bd hb hpb k hk _ _ _ hfo
              refine GE_seq ?_
              refine GE_plain (.st 0 .nil) rfl ?_
              refine GT_st rfl rfl rfl rfl (V_lss rfl rfl rfl) ?_
              refine GT_nil ?_
              refine GE_seq ?_
              first | refine GE_condNot rfl (fun h6 => ?_) (fun h6 => ?_) | refine GE_cond rfl (fun h6 => ?_) (fun h6 => ?_) | refine GE_condNotB rfl (fun h6 => ?_) (fun h6 => ?_) | refine GE_condB rfl (fun h6 => ?_) (fun h6 => ?_)
              · have hkl : k < st.length := (by omega)
                have hps : pfold b l (st.take (k + 1)) (frm0 b l st) = pst b l (some (k, pl, sum)) (st.getD k default) := (by rw [pfold_snoc hkl, hfo])
                have hno : pst b l (some (k, pl, sum)) (st.getD k default) = none → provesB b l st = false := (fun q => proves_none (pfold_bad hkl (by rw [hfo]; exact q)))
                refine GE_skip ?_
                refine GE_seq ?_
                refine GE_block ?_
                refine GE_seq ?_
                refine GE_plain (.st 0 (.st 1 (.st 2 (.ld 3 [] (.st 4 (.ld 5 [] .nil)))))) rfl ?_
                refine GT_st rfl rfl rfl rfl (V_move rfl rfl) ?_
                refine GT_st rfl rfl rfl rfl (V_index rfl rfl rfl Try.underlying56 sz_62 (k := k) rfl hkl (hs.isSome hkl)) ?_
                refine GT_st rfl rfl rfl rfl (V_loadN (vs := [_, _]) rfl rfl ag_62 sz_62 rfl (hs.ats noM hkl)) ?_
                refine GT_alloc rfl rfl rfl rfl rfl zc_62 (fun _ => GR_nil) (fun b14 => ?_)
                refine GT_st rfl rfl rfl rfl (V_assign rfl rfl) ?_
                refine GT_store (vs := [_, _]) (l' := [_, _]) rfl rfl rfl rfl rfl rfl rfl sz_62 rfl rfl (Nat.le_of_ble_eq_true rfl) rfl (GR_nil) ?_
                refine GT_nil ?_
                refine GE_seq ?_
                refine GE_slots (L' := [(7, _), (9, _), (11, _), (12, _), (13, _), (14, _), (47, _), (48, _), (49, _)]) ⟨rfl, rfl, rfl, rfl, rfl, rfl, rfl, rfl, rfl, trivial⟩ ?_
                refine GE_plain (.st 0 (.st 1 (.st 2 (.st 3 (.st 4 (.ld 5 [] (.st 6 (.st 7 (.st 8 (.ld 9 [] (.ld 10 [] (.st 11 .nil)))))))))))) rfl ?_
                refine GT_st rfl rfl rfl rfl (V_move rfl rfl) ?_
                first | refine GT_st rfl rfl rfl rfl (V_field rfl rfl fo_62_0) ?_ | refine GT_st rfl rfl rfl rfl (V_fieldA rfl rfl fo_62_0) ?_
                refine GT_st rfl rfl rfl rfl (V_load rfl rfl ag_3 (CellAt.item rfl)) ?_
                first | refine GT_st rfl rfl rfl rfl (V_field rfl rfl fo_62_1) ?_ | refine GT_st rfl rfl rfl rfl (V_fieldA rfl rfl fo_62_1) ?_
                refine GT_st rfl rfl rfl rfl (V_load rfl rfl ag_3 (CellAt.item rfl)) ?_
                refine GT_call0 rfl rfl rfl rfl rfl rfl rfl rfl rn_57 (fun w hw => C_lathe_edge (SideAt.of hw) (hp.sh hw) hb h3 h4) (GR_nil) ?_
                refine GT_st rfl rfl rfl rfl (V_move rfl rfl) ?_
                refine GT_st rfl rfl rfl rfl (V_extract rfl rfl rfl) ?_
                refine GT_st rfl rfl rfl rfl (V_extract rfl rfl rfl) ?_
                refine GT_alloc rfl rfl rfl rfl rfl zc_97 (fun _ => GR_nil) (fun b15 => ?_)
                refine GT_store (vs := [_, _, _, _, _]) (l' := [_, _, _, _, _]) rfl rfl rfl rfl rfl rfl rfl sz_97 rfl rfl (Nat.le_of_ble_eq_true rfl) rfl (GR_nil) ?_
                refine GT_st rfl rfl rfl rfl (V_assign rfl rfl) ?_
                refine GT_nil ?_
                refine GE_seq ?_
                refine GE_seq ?_
                refine GE_slots (L' := [(7, _), (9, _), (11, _), (12, _), (13, _), (15, _), (16, _), (47, _), (48, _), (49, _)]) ⟨rfl, rfl, rfl, rfl, rfl, rfl, rfl, rfl, rfl, rfl, trivial⟩ ?_
                refine GE_plain (.st 0 (.st 1 (.st 2 (.st 3 (.st 4 (.st 5 (.st 6 (.st 7 (.st 8 (.st 9 (.st 10 (.st 11 (.st 12 (.st 13 (.st 14 (.st 15 .nil)))))))))))))))) rfl ?_
                refine GT_st rfl rfl rfl rfl (V_move rfl rfl) ?_
                first | refine GT_st rfl rfl rfl rfl (V_not rfl rfl) ?_ | refine GT_st rfl rfl rfl rfl (V_notB rfl rfl) ?_
                refine GT_st rfl rfl rfl rfl (V_move rfl rfl) ?_
                first | refine GT_splitNot (d := 65) rfl (fun h7 => ?_) (fun h7 => ?_) | refine GT_split (d := 65) rfl (fun h7 => ?_) (fun h7 => ?_) | refine GT_splitNotB (d := 65) rfl (fun h7 => ?_) (fun h7 => ?_) | refine GT_splitB (d := 65) rfl (fun h7 => ?_) (fun h7 => ?_)
                · have hbad := hno (if_neg (fun q => by rw [h7] at q; cases q.1))
                  refine GT_skip rfl rfl rfl rfl rfl (by decide) rfl rfl ?_
                  refine GT_skip rfl rfl rfl rfl rfl (by decide) rfl rfl ?_
                  refine GT_skip rfl rfl rfl rfl rfl (by decide) rfl rfl ?_
                  refine GT_skip rfl rfl rfl rfl rfl (by decide) rfl rfl ?_
                  refine GT_st rfl rfl rfl rfl (V_pick_t rfl rfl rfl) ?_
                  refine GT_st rfl rfl rfl rfl (V_move rfl rfl) ?_
                  refine GT_skip rfl rfl rfl rfl rfl (by decide) rfl rfl ?_
                  refine GT_skip rfl rfl rfl rfl rfl (by decide) rfl rfl ?_
                  refine GT_skip rfl rfl rfl rfl rfl (by decide) rfl rfl ?_
                  refine GT_skip rfl rfl rfl rfl rfl (by decide) rfl rfl ?_
                  refine GT_skip rfl rfl rfl rfl rfl (by decide) rfl rfl ?_
                  refine GT_skip rfl rfl rfl rfl rfl (by decide) rfl rfl ?_
                  refine GT_st rfl rfl rfl rfl (V_pick_t rfl rfl rfl) ?_
                  refine GT_nil ?_
                  refine GE_cond_t rfl ?_
                  refine GE_seq ?_
                  refine GE_slots (L' := []) trivial ?_
                  refine GE_plain (.st 0 .nil) rfl ?_
                  refine GT_st rfl rfl rfl rfl (V_assign rfl rfl) ?_
                  refine GT_nil ?_
                  refine GE_ret Try.func35 rfl (fun w hw => ⟨?_, hw.nil⟩)
                  rw [hE, if_neg (by omega), hbad]; rfl
                · have hwt := edgeOf_wt hb hpb h7
                  first | refine GT_st_g rfl rfl rfl rfl rfl rfl rfl (V_field rfl rfl fo_97_1) ?_ | refine GT_st_g rfl rfl rfl rfl rfl rfl rfl (V_fieldA rfl rfl fo_97_1) ?_
                  refine GT_st_g rfl rfl rfl rfl rfl rfl rfl (V_load rfl rfl ag_3 (CellAt.item rfl)) ?_
                  refine GT_st_g rfl rfl rfl rfl rfl rfl rfl (V_move rfl rfl) ?_
                  refine GT_st_g rfl rfl rfl rfl rfl rfl rfl (V_neq rfl rfl rfl) ?_
                  refine GT_st rfl rfl rfl rfl (V_pick_f rfl rfl rfl) ?_
                  refine GT_st rfl rfl rfl rfl (V_move rfl rfl) ?_
                  first | refine GT_splitNot (d := 71) rfl (fun h8 => ?_) (fun h8 => ?_) | refine GT_split (d := 71) rfl (fun h8 => ?_) (fun h8 => ?_) | refine GT_splitNotB (d := 71) rfl (fun h8 => ?_) (fun h8 => ?_) | refine GT_splitB (d := 71) rfl (fun h8 => ?_) (fun h8 => ?_)
                  · have hbad := hno (if_neg (fun q => by rcases q.2 with q | q; exact h8 (by rw [hk0 q, q]; rfl); exact h8 q.1))
                    refine GT_skip rfl rfl rfl rfl rfl (by decide) rfl rfl ?_
                    refine GT_skip rfl rfl rfl rfl rfl (by decide) rfl rfl ?_
                    refine GT_skip rfl rfl rfl rfl rfl (by decide) rfl rfl ?_
                    refine GT_skip rfl rfl rfl rfl rfl (by decide) rfl rfl ?_
                    refine GT_skip rfl rfl rfl rfl rfl (by decide) rfl rfl ?_
                    refine GT_skip rfl rfl rfl rfl rfl (by decide) rfl rfl ?_
                    refine GT_st rfl rfl rfl rfl (V_pick_t rfl rfl rfl) ?_
                    refine GT_nil ?_
                    refine GE_cond_t rfl ?_
                    refine GE_seq ?_
                    refine GE_slots (L' := []) trivial ?_
                    refine GE_plain (.st 0 .nil) rfl ?_
                    refine GT_st rfl rfl rfl rfl (V_assign rfl rfl) ?_
                    refine GT_nil ?_
                    refine GE_ret Try.func35 rfl (fun w hw => ⟨?_, hw.nil⟩)
                    rw [hE, if_neg (by omega), hbad]; rfl
                  · skip
                    refine GT_st_g rfl rfl rfl rfl rfl rfl rfl (V_move rfl rfl) ?_
                    refine GT_st_g rfl rfl rfl rfl rfl rfl rfl (V_gtr rfl rfl rfl) ?_
                    refine GT_st_g rfl rfl rfl rfl rfl rfl rfl (V_move rfl rfl) ?_
                    first | refine GT_splitNot (d := 74) rfl (fun h9 => ?_) (fun h9 => ?_) | refine GT_split (d := 74) rfl (fun h9 => ?_) (fun h9 => ?_) | refine GT_splitNotB (d := 74) rfl (fun h9 => ?_) (fun h9 => ?_) | refine GT_splitB (d := 74) rfl (fun h9 => ?_) (fun h9 => ?_)
                    · skip
                      refine GT_st_g rfl rfl rfl rfl rfl rfl rfl (V_move rfl rfl) ?_
                      refine GT_st_g rfl rfl rfl rfl rfl rfl rfl (V_eql rfl rfl rfl) ?_
                      refine GT_st_g rfl rfl rfl rfl rfl rfl rfl (V_pick_t rfl rfl rfl) ?_
                      refine GT_st rfl rfl rfl rfl (V_pick_f rfl rfl rfl) ?_
                      refine GT_nil ?_
                      first | refine GE_condNot rfl (fun h10 => ?_) (fun h10 => ?_) | refine GE_cond rfl (fun h10 => ?_) (fun h10 => ?_) | refine GE_condNotB rfl (fun h10 => ?_) (fun h10 => ?_) | refine GE_condB rfl (fun h10 => ?_) (fun h10 => ?_)
                      · have hbad := hno (if_neg (fun q => by rcases q.2 with q | q; omega; exact q.2 (by rw [q.1]; exact h10)))
                        refine GE_seq ?_
                        refine GE_slots (L' := []) trivial ?_
                        refine GE_plain (.st 0 .nil) rfl ?_
                        refine GT_st rfl rfl rfl rfl (V_assign rfl rfl) ?_
                        refine GT_nil ?_
                        refine GE_ret Try.func35 rfl (fun w hw => ⟨?_, hw.nil⟩)
                        rw [hE, if_neg (by omega), hbad]; rfl
                      · have hok := hps.trans (if_pos ⟨h7, .inr ⟨h8, by rw [h8]; exact h10⟩⟩)
                        refine GE_skip ?_
                        refine GE_slots (L' := [(7, _), (9, _), (12, _), (15, _), (47, _), (48, _), (49, _), (66, _), (67, _), (68, _), (69, _), (72, _), (73, _), (74, _), (75, _), (76, _), (77, _)]) ⟨rfl, rfl, rfl, rfl, rfl, rfl, rfl, rfl, rfl, rfl, rfl, rfl, rfl, rfl, rfl, rfl, rfl, trivial⟩ ?_
                        refine GE_drawn (.st 0 (.st 1 (.st 2 (.st 3 (.st 4 (.st 5 (.st 6 (.ld 7 [] .nil)))))))) [7] (by decide +kernel) ?_
                        first | refine GT_st rfl rfl rfl rfl (V_field rfl rfl fo_97_2) ?_ | refine GT_st rfl rfl rfl rfl (V_fieldA rfl rfl fo_97_2) ?_
                        refine GT_st rfl rfl rfl rfl (V_load rfl rfl ag_3 (CellAt.item rfl)) ?_
                        refine GT_st rfl rfl rfl rfl (V_move rfl rfl) ?_
                        first | refine GT_st rfl rfl rfl rfl (V_field rfl rfl fo_97_3) ?_ | refine GT_st rfl rfl rfl rfl (V_fieldA rfl rfl fo_97_3) ?_
                        refine GT_st rfl rfl rfl rfl (V_load rfl rfl ag_2 (CellAt.item rfl)) ?_
                        refine GT_st rfl rfl rfl rfl (V_add rfl rfl rfl (wrap_i64 (by omega))) ?_
                        refine GT_st rfl rfl rfl rfl (V_assign rfl rfl) ?_
                        refine GT_ldv rfl rfl rfl rfl rfl (V_assign rfl rfl) (GR_nil) ?_
                        refine GT_nil ?_
                        refine GE_inBlock ?_
                        refine GE_slots (L' := [(7, _), (9, _), (11, _), (12, _), (47, _), (48, _), (49, _), (66, _), (67, _), (68, _), (69, _), (72, _), (73, _), (74, _), (75, _), (76, _), (77, _)]) ⟨rfl, rfl, rfl, rfl, rfl, rfl, rfl, rfl, rfl, rfl, rfl, rfl, rfl, rfl, rfl, rfl, rfl, trivial⟩ ?_
                        refine GE_plain (.st 0 (.ld 1 [] .nil)) rfl ?_
                        refine GT_st rfl rfl rfl rfl (V_add rfl rfl rfl (wrap_i64 (by omega))) ?_
                        refine GT_ldv rfl rfl rfl rfl rfl (V_move rfl rfl) (GR_nil) ?_
                        refine GT_nil ?_
                        exact GE_to (ih (k + 1, (edgeOf b l (st.getD k default).rule (st.getD k default).samp).1.to, sum + (edgeOf b l (st.getD k default).rule (st.getD k default).samp).1.wt) ⟨by dsimp only; omega, hok, fun q => by cases q⟩ (by dsimp only; omega)) ⟨rfl, rfl, rfl, rfl, rfl, rfl, rfl, trivial⟩ (HS.cons rfl (HS.cons rfl HS.nil))
                    · have hok := hps.trans (if_pos ⟨h7, .inl (by omega)⟩)
                      refine GT_skip rfl rfl rfl rfl rfl (by decide) rfl rfl ?_
                      refine GT_skip rfl rfl rfl rfl rfl (by decide) rfl rfl ?_
                      refine GT_st_g rfl rfl rfl rfl rfl rfl rfl (V_pick_f rfl rfl rfl) ?_
                      refine GT_st rfl rfl rfl rfl (V_pick_f rfl rfl rfl) ?_
                      refine GT_nil ?_
                      refine GE_cond_f rfl ?_
                      refine GE_skip ?_
                      refine GE_slots (L' := [(7, _), (9, _), (12, _), (15, _), (47, _), (48, _), (49, _), (66, _), (67, _), (68, _), (69, _), (72, _), (73, _), (74, _), (75, _), (76, _), (77, _)]) ⟨rfl, rfl, rfl, rfl, rfl, rfl, rfl, rfl, rfl, rfl, rfl, rfl, rfl, rfl, rfl, rfl, rfl, trivial⟩ ?_
                      refine GE_drawn (.st 0 (.st 1 (.st 2 (.st 3 (.st 4 (.st 5 (.st 6 (.ld 7 [] .nil)))))))) [7] (by decide +kernel) ?_
                      first | refine GT_st rfl rfl rfl rfl (V_field rfl rfl fo_97_2) ?_ | refine GT_st rfl rfl rfl rfl (V_fieldA rfl rfl fo_97_2) ?_
                      refine GT_st rfl rfl rfl rfl (V_load rfl rfl ag_3 (CellAt.item rfl)) ?_
                      refine GT_st rfl rfl rfl rfl (V_move rfl rfl) ?_
                      first | refine GT_st rfl rfl rfl rfl (V_field rfl rfl fo_97_3) ?_ | refine GT_st rfl rfl rfl rfl (V_fieldA rfl rfl fo_97_3) ?_
                      refine GT_st rfl rfl rfl rfl (V_load rfl rfl ag_2 (CellAt.item rfl)) ?_
                      refine GT_st rfl rfl rfl rfl (V_add rfl rfl rfl (wrap_i64 (by omega))) ?_
                      refine GT_st rfl rfl rfl rfl (V_assign rfl rfl) ?_
                      refine GT_ldv rfl rfl rfl rfl rfl (V_assign rfl rfl) (GR_nil) ?_
                      refine GT_nil ?_
                      refine GE_inBlock ?_
                      refine GE_slots (L' := [(7, _), (9, _), (11, _), (12, _), (47, _), (48, _), (49, _), (66, _), (67, _), (68, _), (69, _), (72, _), (73, _), (74, _), (75, _), (76, _), (77, _)]) ⟨rfl, rfl, rfl, rfl, rfl, rfl, rfl, rfl, rfl, rfl, rfl, rfl, rfl, rfl, rfl, rfl, rfl, trivial⟩ ?_
                      refine GE_plain (.st 0 (.ld 1 [] .nil)) rfl ?_
                      refine GT_st rfl rfl rfl rfl (V_add rfl rfl rfl (wrap_i64 (by omega))) ?_
                      refine GT_ldv rfl rfl rfl rfl rfl (V_move rfl rfl) (GR_nil) ?_
                      refine GT_nil ?_
                      exact GE_to (ih (k + 1, (edgeOf b l (st.getD k default).rule (st.getD k default).samp).1.to, sum + (edgeOf b l (st.getD k default).rule (st.getD k default).samp).1.wt) ⟨by dsimp only; omega, hok, fun q => by cases q⟩ (by dsimp only; omega)) ⟨rfl, rfl, rfl, rfl, rfl, rfl, rfl, trivial⟩ (HS.cons rfl (HS.cons rfl HS.nil))
              · obtain rfl : k = st.length := (by omega); rw [List.take_length] at hfo; have hpr := proves_some hne hfo
                refine GE_exit rfl ?_
                refine GE_seq ?_
                refine GE_seq ?_
                refine GE_slots (L' := [(9, _), (11, _), (12, _)]) ⟨rfl, rfl, rfl, trivial⟩ ?_
                refine GE_plain (.st 0 (.st 1 (.st 2 (.st 3 (.st 4 (.st 5 (.st 6 (.st 7 .nil)))))))) rfl ?_
                refine GT_st rfl rfl rfl rfl (V_move rfl rfl) ?_
                first | refine GT_st rfl rfl rfl rfl (V_field rfl rfl fo_97_1) ?_ | refine GT_st rfl rfl rfl rfl (V_fieldA rfl rfl fo_97_1) ?_
                refine GT_st rfl rfl rfl rfl (V_load rfl rfl ag_3 (CellAt.item rfl)) ?_
                refine GT_st rfl rfl rfl rfl (V_neq rfl rfl rfl) ?_
                refine GT_st rfl rfl rfl rfl (V_move rfl rfl) ?_
                first | refine GT_splitNot (d := 90) rfl (fun h11 => ?_) (fun h11 => ?_) | refine GT_split (d := 90) rfl (fun h11 => ?_) (fun h11 => ?_) | refine GT_splitNotB (d := 90) rfl (fun h11 => ?_) (fun h11 => ?_) | refine GT_splitB (d := 90) rfl (fun h11 => ?_) (fun h11 => ?_)
                · have hbad : provesB b l st = false := (by rw [hpr, decide_eq_false (show ¬ pl = frm0 b l st from h11)]; rfl)
                  refine GT_skip rfl rfl rfl rfl rfl (by decide) rfl rfl ?_
                  refine GT_skip rfl rfl rfl rfl rfl (by decide) rfl rfl ?_
                  refine GT_st rfl rfl rfl rfl (V_pick_t rfl rfl rfl) ?_
                  refine GT_nil ?_
                  refine GE_cond_t rfl ?_
                  refine GE_seq ?_
                  refine GE_slots (L' := []) trivial ?_
                  refine GE_plain (.st 0 .nil) rfl ?_
                  refine GT_st rfl rfl rfl rfl (V_assign rfl rfl) ?_
                  refine GT_nil ?_
                  refine GE_ret Try.func35 rfl (fun w hw => ⟨?_, hw.nil⟩)
                  rw [hE, if_neg (by omega), hbad]; rfl
                · skip
                  refine GT_st_g rfl rfl rfl rfl rfl rfl rfl (V_move rfl rfl) ?_
                  refine GT_st_g rfl rfl rfl rfl rfl rfl rfl (V_geq rfl rfl rfl) ?_
                  refine GT_st rfl rfl rfl rfl (V_pick_f rfl rfl rfl) ?_
                  refine GT_nil ?_
                  first | refine GE_condNot rfl (fun h12 => ?_) (fun h12 => ?_) | refine GE_cond rfl (fun h12 => ?_) (fun h12 => ?_) | refine GE_condNotB rfl (fun h12 => ?_) (fun h12 => ?_) | refine GE_condB rfl (fun h12 => ?_) (fun h12 => ?_)
                  · have hbad : provesB b l st = false := (by rw [hpr, decide_eq_false (show ¬ sum < 0 by omega), Bool.and_false])
                    refine GE_seq ?_
                    refine GE_slots (L' := []) trivial ?_
                    refine GE_plain (.st 0 .nil) rfl ?_
                    refine GT_st rfl rfl rfl rfl (V_assign rfl rfl) ?_
                    refine GT_nil ?_
                    refine GE_ret Try.func35 rfl (fun w hw => ⟨?_, hw.nil⟩)
                    rw [hE, if_neg (by omega), hbad]; rfl
                  · skip
                    refine GE_skip ?_
                    refine GE_seq ?_
                    refine GE_slots (L' := []) trivial ?_
                    refine GE_plain (.st 0 .nil) rfl ?_
                    refine GT_st rfl rfl rfl rfl (V_assign rfl rfl) ?_
                    refine GT_nil ?_
                    refine GE_ret Try.func35 rfl (fun w hw => ⟨?_, hw.nil⟩)
                    rw [hE, if_neg (by omega), hpr, decide_eq_true (show pl = frm0 b l st from h11), decide_eq_true (show sum < 0 by omega)]; rfl
            · exact ⟨Nat.zero_le _, rfl, fun _ => rfl⟩
          · skip
            refine GE_drawn (.st 0 (.st 1 (.st 2 (.st 3 (.st 4 (.st 5 (.st 6 (.st 7 (.st 8 (.br (.ld 9 [1, 2, 3, 5, 6, 7] (.st 10 (.st 11 (.st 12 (.ld 13 [0, 1, 2, 3, 4, 5, 6, 7, 8, 10, 11, 12] (.ld 14 [12] (.st 15 .nil))))))) (.ld 13 [0, 1, 2, 3, 4, 5, 6, 7, 8] (.ld 9 [1, 2, 3, 5, 6, 7] (.st 10 (.st 11 (.st 12 (.ld 14 [12] (.st 15 .nil))))))))))))))))) [9, 13, 14] (by decide +kernel) ?_
            refine GT_st rfl rfl rfl rfl (V_move rfl rfl) ?_
            refine GT_st rfl rfl rfl rfl (V_move rfl rfl) ?_
            refine GT_st rfl rfl rfl rfl (V_index (k := 0) rfl rfl rfl Try.underlying56 sz_62 rfl (by omega) (hs.isSome (k := 0) (by omega))) ?_
            first | refine GT_st rfl rfl rfl rfl (V_field rfl rfl fo_62_0) ?_ | refine GT_st rfl rfl rfl rfl (V_fieldA rfl rfl fo_62_0) ?_
            refine GT_st rfl rfl rfl rfl (V_load rfl rfl ag_3 (hs.at0 noM (by omega) rfl)) ?_
            refine GT_st rfl rfl rfl rfl (V_move rfl rfl) ?_
            refine GT_st rfl rfl rfl rfl (V_index (k := 0) rfl rfl rfl Try.underlying56 sz_62 rfl (by omega) (hs.isSome (k := 0) (by omega))) ?_
            first | refine GT_st rfl rfl rfl rfl (V_field rfl rfl fo_62_1) ?_ | refine GT_st rfl rfl rfl rfl (V_fieldA rfl rfl fo_62_1) ?_
            refine GT_st rfl rfl rfl rfl (V_load rfl rfl ag_3 (hs.at1 noM (by omega) rfl)) ?_
            refine GT_br ?_ ?_
            · skip
              refine GT_call0 rfl rfl rfl rfl rfl rfl rfl rfl rn_57 (fun w hw => C_lathe_edge (SideAt.of hw) (hp.sh hw) hb h3 h4) (GR_cons rfl rfl rfl rfl (V_move rfl rfl) (GR_cons rfl rfl rfl rfl (V_index (k := 0) rfl rfl rfl Try.underlying56 sz_62 rfl (by omega) (hs.isSome (k := 0) (by omega))) (GR_cons rfl rfl rfl rfl ((by first | exact V_field rfl rfl fo_62_0 | exact V_fieldA rfl rfl fo_62_0)) (GR_cons rfl rfl rfl rfl (V_move rfl rfl) (GR_cons rfl rfl rfl rfl (V_index (k := 0) rfl rfl rfl Try.underlying56 sz_62 rfl (by omega) (hs.isSome (k := 0) (by omega))) (GR_cons rfl rfl rfl rfl ((by first | exact V_field rfl rfl fo_62_1 | exact V_fieldA rfl rfl fo_62_1)) (GR_nil))))))) ?_
              refine GT_st rfl rfl rfl rfl (V_move rfl rfl) ?_
              refine GT_st rfl rfl rfl rfl (V_extract rfl rfl rfl) ?_
              refine GT_st rfl rfl rfl rfl (V_extract rfl rfl rfl) ?_
              refine GT_alloc rfl rfl rfl rfl rfl zc_97 (fun _ => GR_cons rfl rfl rfl rfl (V_move rfl rfl) (GR_cons rfl rfl rfl rfl (V_move rfl rfl) (GR_cons rfl rfl rfl rfl (V_index (k := 0) rfl rfl rfl Try.underlying56 sz_62 rfl (by omega) (hs.isSome (k := 0) (by omega))) (GR_cons rfl rfl rfl rfl ((by first | exact V_field rfl rfl fo_62_0 | exact V_fieldA rfl rfl fo_62_0)) (GR_cons rfl rfl rfl rfl (V_load rfl rfl ag_3 (hs.at0 noM (by omega) rfl)) (GR_cons rfl rfl rfl rfl (V_move rfl rfl) (GR_cons rfl rfl rfl rfl (V_index (k := 0) rfl rfl rfl Try.underlying56 sz_62 rfl (by omega) (hs.isSome (k := 0) (by omega))) (GR_cons rfl rfl rfl rfl ((by first | exact V_field rfl rfl fo_62_1 | exact V_fieldA rfl rfl fo_62_1)) (GR_cons rfl rfl rfl rfl (V_load rfl rfl ag_3 (hs.at1 noM (by omega) rfl)) (GR_cons rfl rfl rfl rfl (V_move rfl rfl) (GR_cons rfl rfl rfl rfl (V_extract rfl rfl rfl) (GR_cons rfl rfl rfl rfl (V_extract rfl rfl rfl) (GR_nil))))))))))))) (fun b9 => ?_)
              refine GT_store (vs := [_, _, _, _, _]) (l' := [_, _, _, _, _]) rfl rfl rfl rfl rfl rfl rfl sz_97 rfl rfl (Nat.le_of_ble_eq_true rfl) rfl (GR_cons rfl rfl rfl rfl (V_extract rfl rfl rfl) (GR_nil)) ?_
              refine GT_st rfl rfl rfl rfl (V_assign rfl rfl) ?_
              refine GT_nil ?_
              exact GE_to (hk9 b9 trivial) ⟨rfl, rfl, rfl, trivial⟩ (HS.cons rfl (HS.cons rfl HS.nil))
            · skip
              refine GT_alloc rfl rfl rfl rfl rfl zc_97 (fun _ => GR_cons rfl rfl rfl rfl (V_move rfl rfl) (GR_cons rfl rfl rfl rfl (V_move rfl rfl) (GR_cons rfl rfl rfl rfl (V_index (k := 0) rfl rfl rfl Try.underlying56 sz_62 rfl (by omega) (hs.isSome (k := 0) (by omega))) (GR_cons rfl rfl rfl rfl ((by first | exact V_field rfl rfl fo_62_0 | exact V_fieldA rfl rfl fo_62_0)) (GR_cons rfl rfl rfl rfl (V_load rfl rfl ag_3 (hs.at0 noM (by omega) rfl)) (GR_cons rfl rfl rfl rfl (V_move rfl rfl) (GR_cons rfl rfl rfl rfl (V_index (k := 0) rfl rfl rfl Try.underlying56 sz_62 rfl (by omega) (hs.isSome (k := 0) (by omega))) (GR_cons rfl rfl rfl rfl ((by first | exact V_field rfl rfl fo_62_1 | exact V_fieldA rfl rfl fo_62_1)) (GR_cons rfl rfl rfl rfl (V_load rfl rfl ag_3 (hs.at1 noM (by omega) rfl)) (GR_nil)))))))))) (fun b9 => ?_)
              refine GT_call0 rfl rfl rfl rfl rfl rfl rfl rfl rn_57 (fun w hw => C_lathe_edge (SideAt.of hw) (hp.sh hw) hb h3 h4) (GR_cons rfl rfl rfl rfl (V_move rfl rfl) (GR_cons rfl rfl rfl rfl (V_index (k := 0) rfl rfl rfl Try.underlying56 sz_62 rfl (by omega) (hs.isSome (k := 0) (by omega))) (GR_cons rfl rfl rfl rfl ((by first | exact V_field rfl rfl fo_62_0 | exact V_fieldA rfl rfl fo_62_0)) (GR_cons rfl rfl rfl rfl (V_move rfl rfl) (GR_cons rfl rfl rfl rfl (V_index (k := 0) rfl rfl rfl Try.underlying56 sz_62 rfl (by omega) (hs.isSome (k := 0) (by omega))) (GR_cons rfl rfl rfl rfl ((by first | exact V_field rfl rfl fo_62_1 | exact V_fieldA rfl rfl fo_62_1)) (GR_nil))))))) ?_
              refine GT_st rfl rfl rfl rfl (V_move rfl rfl) ?_
              refine GT_st rfl rfl rfl rfl (V_extract rfl rfl rfl) ?_
              refine GT_st rfl rfl rfl rfl (V_extract rfl rfl rfl) ?_
              refine GT_store (vs := [_, _, _, _, _]) (l' := [_, _, _, _, _]) rfl rfl rfl rfl rfl rfl rfl sz_97 rfl rfl (Nat.le_of_ble_eq_true rfl) rfl (GR_cons rfl rfl rfl rfl (V_extract rfl rfl rfl) (GR_nil)) ?_
              refine GT_st rfl rfl rfl rfl (V_assign rfl rfl) ?_
              refine GT_nil ?_
              exact GE_to (hk9 b9 trivial) ⟨rfl, rfl, rfl, trivial⟩ (HS.cons rfl (HS.cons rfl HS.nil))
  · have hE : refE b l st = both b l := if_neg he
    refine Ret_of (vs := [_, _, _]) hm none' Try.func35 rfl Try.ntmps35 rfl ?_
    dsimp only [slotsOf]
    refine GE_seq ?_
    refine GE_plain (.ld 0 [] (.st 1 .nil)) rfl ?_
    refine GT_box (z := [_, _, _, _, _, _]) rfl rfl rfl rfl rfl rfl rfl (fun _ => GR_nil) (fun b3 => ?_)
    refine GT_st rfl rfl rfl rfl (V_assign rfl rfl) ?_
    refine GT_nil ?_
    refine GE_seq ?_
    refine GE_plain (.st 0 (.st 1 (.ld 2 [] (.st 3 (.st 4 (.st 5 (.st 6 (.st 7 .nil)))))))) rfl ?_
    refine GT_st rfl rfl rfl rfl (V_loadN (vs := [_, _, _, _, _, _]) rfl rfl ag_23 sz_23 rfl (CellsAt.item rfl)) ?_
    refine GT_st rfl rfl rfl rfl (V_move rfl rfl) ?_
    refine GT_call0 rfl rfl rfl rfl rfl rfl rfl rfl rn_38 (fun w hw => C_lathe_newSide_err (hp.sh hw) he) (GR_nil) ?_
    refine GT_st rfl rfl rfl rfl (V_move rfl rfl) ?_
    refine GT_st rfl rfl rfl rfl (V_extract rfl rfl rfl) ?_
    refine GT_st rfl rfl rfl rfl (V_extract rfl rfl rfl) ?_
    refine GT_st rfl rfl rfl rfl (V_assign rfl rfl) ?_
    refine GT_st rfl rfl rfl rfl (V_assign rfl rfl) ?_
    refine GT_nil ?_
    refine GE_seq ?_
    refine GE_seq ?_
    refine GE_slots (L' := [(2, _), (7, _), (8, _)]) ⟨rfl, rfl, rfl, trivial⟩ ?_
    refine GE_plain (.st 0 (.st 1 .nil)) rfl ?_
    refine GT_st rfl rfl rfl rfl (V_move rfl rfl) ?_
    refine GT_st rfl rfl rfl rfl (V_neq rfl rfl rfl) ?_
    refine GT_nil ?_
    first | refine GE_condNot rfl (fun h5 => ?_) (fun h5 => ?_) | refine GE_cond rfl (fun h5 => ?_) (fun h5 => ?_) | refine GE_condNotB rfl (fun h5 => ?_) (fun h5 => ?_) | refine GE_condB rfl (fun h5 => ?_) (fun h5 => ?_)
    · skip
      refine GE_seq ?_
      refine GE_slots (L' := [(8, _)]) ⟨rfl, trivial⟩ ?_
      refine GE_plain (.st 0 (.st 1 .nil)) rfl ?_
      refine GT_st rfl rfl rfl rfl (V_move rfl rfl) ?_
      refine GT_st rfl rfl rfl rfl (V_assign rfl rfl) ?_
      refine GT_nil ?_
      refine GE_ret Try.func35 rfl (fun w hw => ⟨?_, hw.nil⟩)
      rw [hE]; rfl
    · exact absurd h5 he
end
end Go.Proofs.Ytacmnmcaeflflaa
