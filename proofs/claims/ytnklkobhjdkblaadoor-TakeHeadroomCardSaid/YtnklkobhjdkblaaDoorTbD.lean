/- Where a programme is split; TakeSplits; walked. -/
import Derived.Test.YtnklkobhjdkblaaDoorTbB
import Derived.Test.YtnklkobhjdkblaaDoorTaE
namespace Go.Proofs.YtnklkobhjdkblaaDoor
open Go.Sx Go.Proofs Go.RowKit

def stL (l : List Tk) (p : List Prt) : List Int := if gErr l p = 0 then bgns p p.length else []
def stN (l : List Tk) (p : List Prt) : Int := if gErr l p = 0 then fin p else 0
section
variable {w : World} {A A2 : Option Addr} {c c2 : Nat} {l : List Tk} {p : List Prt} {t : Int}
theorem gd_of (h : ProgOk l p) : Gd l p := ⟨h.tks, h.most, h.each⟩
theorem C_rStarts (h : Tks w A l) (hp : RdL w 7 ePrt A2 p) : Con Tryd.prog 36 [.slice A l.length c, .slice A2 p.length c2] w (fun y : Option Addr × Nat × Items => Own 1 3 eI (stL l p) (.slice y.1 (stL l p).length y.2.1) y.2.2)
    (fun y => .tuple #[.slice y.1 (stL l p).length y.2.1, I (stN l p), I (gErr l p)]) (fun y => y.2.2) := by
  refine Ret_of (vs := [_, _]) hm none' Tryd.func36 rfl Tryd.ntmps36 rfl ?_
  dsimp only [slotsOf]
  refine GE_seq ?_
  refine GE_plain (.st 0 (.st 1 (.st 2 .nil))) rfl ?_
  refine GT_st rfl rfl rfl rfl (V_assign rfl rfl) ?_
  refine GT_st rfl rfl rfl rfl (V_assign rfl rfl) ?_
  refine GT_st rfl rfl rfl rfl (V_assign rfl rfl) ?_
  refine GT_nil ?_
  refine GE_seq ?_
  refine GE_seq ?_
  refine GE_plain (.st 0 (.st 1 (.ld 2 [] (.st 3 .nil)))) rfl ?_
  refine GT_st rfl rfl rfl rfl (V_move rfl rfl) ?_
  refine GT_st rfl rfl rfl rfl (V_move rfl rfl) ?_
  refine GT_call0 rfl rfl rfl rfl rfl rfl rfl rfl rn_21 (fun w hw => C_rCheckProgramme (h.sh hw) (hp.sh hw)) (GR_nil) ?_
  refine GT_st rfl rfl rfl rfl (V_neq rfl rfl rfl) ?_
  refine GT_nil ?_
  first | refine GE_condNot rfl (fun q1 => ?_) (fun q1 => ?_) | refine GE_cond rfl (fun q1 => ?_) (fun q1 => ?_) | refine GE_condNotB rfl (fun q1 => ?_) (fun q1 => ?_) | refine GE_condB rfl (fun q1 => ?_) (fun q1 => ?_)
  · skip
    refine GE_seq ?_
    refine GE_slots (L' := [(0, _), (1, _)]) ⟨rfl, rfl, trivial⟩ ?_
    refine GE_plain (.st 0 (.st 1 (.ld 2 [] (.st 3 (.st 4 (.st 5 .nil)))))) rfl ?_
    refine GT_st rfl rfl rfl rfl (V_move rfl rfl) ?_
    refine GT_st rfl rfl rfl rfl (V_move rfl rfl) ?_
    refine GT_call0 rfl rfl rfl rfl rfl rfl rfl rfl rn_21 (fun w hw => C_rCheckProgramme (h.sh hw) (hp.sh hw)) (GR_nil) ?_
    refine GT_st rfl rfl rfl rfl (V_assign rfl rfl) ?_
    refine GT_st rfl rfl rfl rfl (V_assign rfl rfl) ?_
    refine GT_st rfl rfl rfl rfl (V_assign rfl rfl) ?_
    refine GT_nil ?_
    refine GE_ret Tryd.func36 ⟨_, _, _, rfl, rfl, rfl, rfl⟩ (fun w hw => ?_)
    have e1 : stL l p = [] := if_neg q1; have e2 : stN l p = 0 := if_neg q1; exact ⟨(none, 0, []), by dsimp only; rw [e1]; exact Own.nil, by dsimp only; rw [e1, e2]; rfl, hw.nil⟩
  · skip
    refine GE_skip ?_
    refine GE_seq ?_
    refine GE_slots (L' := [(1, _)]) ⟨rfl, trivial⟩ ?_
    refine GE_plain (.st 0 (.ld 1 [] (.st 2 (.st 3 (.st 4 (.st 5 (.st 6 .nil))))))) rfl ?_
    refine GT_st rfl rfl rfl rfl (V_move rfl rfl) ?_
    refine GT_call rfl rfl rfl rfl rfl rfl rfl rfl rn_59 (fun w hw => C_rstarts (gd_of (gErr_zero.1 q1)) (hp.sh hw)) (fun _ _ => GR_nil) (fun y hy => ?_)
    refine GT_st rfl rfl rfl rfl (V_move rfl rfl) ?_
    refine GT_st rfl rfl rfl rfl (V_extract rfl rfl rfl) ?_
    refine GT_st rfl rfl rfl rfl (V_extract rfl rfl rfl) ?_
    refine GT_st rfl rfl rfl rfl (V_assign rfl rfl) ?_
    refine GT_st rfl rfl rfl rfl (V_assign rfl rfl) ?_
    refine GT_nil ?_
    refine GE_seq ?_
    refine GE_slots (L' := [(7, _), (8, _)]) ⟨rfl, rfl, trivial⟩ ?_
    refine GE_plain (.st 0 (.st 1 (.st 2 (.st 3 (.st 4 .nil))))) rfl ?_
    refine GT_st rfl rfl rfl rfl (V_move rfl rfl) ?_
    refine GT_st rfl rfl rfl rfl (V_move rfl rfl) ?_
    refine GT_st rfl rfl rfl rfl (V_assign rfl rfl) ?_
    refine GT_st rfl rfl rfl rfl (V_assign rfl rfl) ?_
    refine GT_st rfl rfl rfl rfl (V_assign rfl rfl) ?_
    refine GT_nil ?_
    refine GE_ret Tryd.func36 ⟨_, _, _, rfl, rfl, rfl, rfl⟩ (fun w hw => ?_)
    have e1 : stL l p = bgns p p.length := if_pos q1; have e2 : stN l p = fin p := if_pos q1; exact ⟨y, by rw [e1, bgns_len]; exact hy, by rw [e1, e2, bgns_len, q1]; rfl, hw.chunk⟩
abbrev OI := Option Addr × Nat × Items
def SpCon (f : Nat) (l : List Tk) (p : List Prt) (t : Int) (A A2 : Option Addr) (c c2 : Nat) (w : World) : Prop := Con Tryd.prog f [.slice A l.length c, .slice A2 p.length c2, I t] w (fun y : OI × OI => Own 7 30 ePrt (spF l p t) (.slice y.1.1 (spF l p t).length y.1.2.1) y.1.2.2 ∧ Own 7 30 ePrt (spS l p t) (.slice y.2.1 (spS l p t).length y.2.2.1) y.2.2.2)
    (fun y => .tuple #[.slice y.1.1 (spF l p t).length y.1.2.1, .slice y.2.1 (spS l p t).length y.2.2.1, I (spE l p t)]) (fun y => y.1.2.2 ++ y.2.2.2)
theorem sp_nil {e : Int} (hz : spE l p t = e) (he : e ≠ 0) {w0 w : World} {M : Nat → Prop} {H : Items} (hw : SH w0 M H w) : ∃ y : OI × OI, (Own 7 30 ePrt (spF l p t) (.slice y.1.1 (spF l p t).length y.1.2.1) y.1.2.2 ∧ Own 7 30 ePrt (spS l p t) (.slice y.2.1 (spS l p t).length y.2.2.1) y.2.2.2) ∧ Value.tuple #[.slice none 0 0, .slice none 0 0, I e] = .tuple #[.slice y.1.1 (spF l p t).length y.1.2.1, .slice y.2.1 (spS l p t).length y.2.2.1, I (spE l p t)] ∧ SH w0 M (y.1.2.2 ++ y.2.2.2) w := by
  have e1 : spF l p t = [] := if_neg (by omega)
  have e2 : spS l p t = [] := if_neg (by omega)
  refine ⟨((none, 0, []), (none, 0, [])), ?_, ?_, hw.nil⟩
  · rw [e1, e2]; exact ⟨Own.nil, Own.nil⟩
  · rw [e1, e2, hz]; rfl
theorem slice_eq {A : Option Addr} {n m c : Nat} (h : n = m) : Value.slice A n c = .slice A m c := by rw [h]
set_option maxRecDepth 10000 in
set_option maxHeartbeats 1000000 in
theorem C_Split (h : Tks w A l) (hp : RdL w 7 ePrt A2 p) (hc2 : p.length ≤ c2) : SpCon 30 l p t A A2 c c2 w := by
  by_cases hg : gErr l p = 0
  · have hP := gErr_zero.1 hg
    have hG := gd_of hP
    refine Ret_of (vs := [_, _, _]) hm none' Tryd.func30 rfl Tryd.ntmps30 rfl ?_
    dsimp only [slotsOf]
    refine GE_seq ?_
    refine GE_plain (.st 0 (.st 1 (.st 2 .nil))) rfl ?_
    refine GT_st rfl rfl rfl rfl (V_assign rfl rfl) ?_
    refine GT_st rfl rfl rfl rfl (V_assign rfl rfl) ?_
    refine GT_st rfl rfl rfl rfl (V_assign rfl rfl) ?_
    refine GT_nil ?_
    refine GE_seq ?_
    refine GE_plain (.st 0 (.st 1 (.ld 2 [] (.st 3 (.st 4 (.st 5 (.st 6 (.st 7 .nil)))))))) rfl ?_
    refine GT_st rfl rfl rfl rfl (V_move rfl rfl) ?_
    refine GT_st rfl rfl rfl rfl (V_move rfl rfl) ?_
    refine GT_call rfl rfl rfl rfl rfl rfl rfl rfl rn_46 (fun w hw => C_new_ok (h.sh hw) (hp.sh hw) hg) (fun _ _ => GR_nil) (fun y hy => ?_)
    refine GT_st rfl rfl rfl rfl (V_move rfl rfl) ?_
    refine GT_st rfl rfl rfl rfl (V_extract rfl rfl rfl) ?_
    refine GT_st rfl rfl rfl rfl (V_extract rfl rfl rfl) ?_
    refine GT_st rfl rfl rfl rfl (V_assign rfl rfl) ?_
    refine GT_st rfl rfl rfl rfl (V_assign rfl rfl) ?_
    refine GT_nil ?_
    refine GE_seq ?_
    refine GE_seq ?_
    refine GE_slots (L' := [(1, _), (2, _), (9, _), (10, _)]) ⟨rfl, rfl, rfl, rfl, trivial⟩ ?_
    refine GE_plain (.st 0 (.st 1 .nil)) rfl ?_
    refine GT_st rfl rfl rfl rfl (V_move rfl rfl) ?_
    refine GT_st rfl rfl rfl rfl (V_isF (V_neq rfl rfl rfl) (by decide)) ?_
    refine GT_nil ?_
    refine GE_cond_f rfl ?_
    refine GE_skip ?_
    refine GE_seq ?_
    refine GE_seq ?_
    refine GE_plain (.st 0 (.st 1 (.st 2 (.st 3 (.st 4 (.st 5 (.st 6 (.st 7 (.st 8 (.st 9 .nil)))))))))) rfl ?_
    refine GT_st rfl rfl rfl rfl (V_move rfl rfl) ?_
    refine GT_st rfl rfl rfl rfl (V_lss rfl rfl rfl) ?_
    refine GT_st rfl rfl rfl rfl (V_move rfl rfl) ?_
    first | refine GT_splitNot (d := 27) rfl (fun h1 => ?_) (fun h1 => ?_) | refine GT_split (d := 27) rfl (fun h1 => ?_) (fun h1 => ?_) | refine GT_splitNotB (d := 27) rfl (fun h1 => ?_) (fun h1 => ?_) | refine GT_splitB (d := 27) rfl (fun h1 => ?_) (fun h1 => ?_)
    · skip
      refine GT_skip rfl rfl rfl rfl rfl (by decide) rfl rfl ?_
      refine GT_skip rfl rfl rfl rfl rfl (by decide) rfl rfl ?_
      refine GT_skip rfl rfl rfl rfl rfl (by decide) rfl rfl ?_
      refine GT_skip rfl rfl rfl rfl rfl (by decide) rfl rfl ?_
      refine GT_skip rfl rfl rfl rfl rfl (by decide) rfl rfl ?_
      refine GT_skip rfl rfl rfl rfl rfl (by decide) rfl rfl ?_
      refine GT_st rfl rfl rfl rfl (V_pick_t rfl rfl rfl) ?_
      refine GT_nil ?_
      refine GE_cond_t rfl ?_
      refine GE_seq ?_
      refine GE_slots (L' := []) trivial ?_
      refine GE_plain (.st 0 (.st 1 (.st 2 .nil))) rfl ?_
      refine GT_st rfl rfl rfl rfl (V_assign rfl rfl) ?_
      refine GT_st rfl rfl rfl rfl (V_assign rfl rfl) ?_
      refine GT_st rfl rfl rfl rfl (V_assign rfl rfl) ?_
      refine GT_nil ?_
      refine GE_ret Tryd.func30 ⟨_, _, _, rfl, rfl, rfl, rfl⟩ (fun w hw => ?_)
      exact sp_nil (by rw [spE, if_pos hg, if_pos (by omega)]) (by decide) hw
    · skip
      refine GT_st_g rfl rfl rfl rfl rfl rfl rfl (V_move rfl rfl) ?_
      refine GT_st_g rfl rfl rfl rfl rfl rfl rfl (V_move rfl rfl) ?_
      first | refine GT_st_g rfl rfl rfl rfl rfl rfl rfl (V_nilCheck rfl rfl) ?_ | refine GT_st_g rfl rfl rfl rfl rfl rfl rfl (V_nilCheck_func rfl rfl) ?_ | refine GT_st_g rfl rfl rfl rfl rfl rfl rfl (V_nilCheck_yield rfl rfl) ?_
      first | refine GT_st_g rfl rfl rfl rfl rfl rfl rfl (V_field rfl rfl fo_81_2) ?_ | refine GT_st_g rfl rfl rfl rfl rfl rfl rfl (V_fieldA rfl rfl fo_81_2) ?_
      refine GT_st_g rfl rfl rfl rfl rfl rfl rfl (V_load rfl rfl ag_3 (CellAt.item rfl)) ?_
      refine GT_st_g rfl rfl rfl rfl rfl rfl rfl (V_gtr rfl rfl rfl) ?_
      refine GT_st rfl rfl rfl rfl (V_pick_f rfl rfl rfl) ?_
      refine GT_nil ?_
      first | refine GE_condNot rfl (fun q1 => ?_) (fun q1 => ?_) | refine GE_cond rfl (fun q1 => ?_) (fun q1 => ?_) | refine GE_condNotB rfl (fun q1 => ?_) (fun q1 => ?_) | refine GE_condB rfl (fun q1 => ?_) (fun q1 => ?_)
      · skip
        refine GE_seq ?_
        refine GE_slots (L' := []) trivial ?_
        refine GE_plain (.st 0 (.st 1 (.st 2 .nil))) rfl ?_
        refine GT_st rfl rfl rfl rfl (V_assign rfl rfl) ?_
        refine GT_st rfl rfl rfl rfl (V_assign rfl rfl) ?_
        refine GT_st rfl rfl rfl rfl (V_assign rfl rfl) ?_
        refine GT_nil ?_
        refine GE_ret Tryd.func30 ⟨_, _, _, rfl, rfl, rfl, rfl⟩ (fun w hw => ?_)
        exact sp_nil (by rw [spE, if_pos hg, if_pos (by omega)]) (by decide) hw
      · have ht3 : ¬ (t < 0 ∨ fin p < t) := (by omega); have hf := hP.fin; have hmo := hP.most
        refine GE_skip ?_
        refine GE_seq ?_
        refine GE_slots (L' := [(1, _), (2, _), (9, _)]) ⟨rfl, rfl, rfl, trivial⟩ ?_
        refine GE_plain (.st 0 .nil) rfl ?_
        refine GT_st rfl rfl rfl rfl (V_assign rfl rfl) ?_
        refine GT_nil ?_
        refine GE_seq ?_
        refine GE_seq ?_
        refine GE_plain (.st 0 (.st 1 (.st 2 (.st 3 (.st 4 (.st 5 .nil)))))) rfl ?_
        refine GT_st rfl rfl rfl rfl (V_move rfl rfl) ?_
        first | refine GT_st rfl rfl rfl rfl (V_nilCheck rfl rfl) ?_ | refine GT_st rfl rfl rfl rfl (V_nilCheck_func rfl rfl) ?_ | refine GT_st rfl rfl rfl rfl (V_nilCheck_yield rfl rfl) ?_
        first | refine GT_st rfl rfl rfl rfl (V_field rfl rfl fo_81_1) ?_ | refine GT_st rfl rfl rfl rfl (V_fieldA rfl rfl fo_81_1) ?_
        refine GT_st rfl rfl rfl rfl (V_load rfl rfl ag_79 (CellAt.item rfl)) ?_
        refine GT_st rfl rfl rfl rfl (V_len rfl Tryd.underlying79 rfl) ?_
        refine GT_st rfl rfl rfl rfl (V_move rfl rfl) ?_
        refine GT_nil ?_
        refine GE_block ?_
        refine GE_to (GE_loop (ι := Nat) (fun k => p.length - k) (fun k => [(1, .slice A2 p.length c2), (2, I t), (9, ptr y.1 0), (11, I (cnt p t k)), (38, .slice y.2.1 p.length y.2.2.1), (39, I p.length), (40, I k)]) (fun k => (y.1, blk [.slice A l.length c, .slice y.2.1 p.length y.2.2.1, I (fin p)] 81) :: y.2.2.2) (fun k => k ≤ p.length ∧ ∀ i, i < k → ¬ (bgn p i < t ∧ t < en p i)) ?_ 0 ?_) ⟨rfl, rfl, rfl, rfl, rfl, rfl, rfl, trivial⟩ (HS.cons rfl HS.last)
        · rintro k ⟨hk, hno⟩ ih; have hcl := cnt_le p t k
          refine GE_seq ?_
          refine GE_plain (.st 0 .nil) rfl ?_
          refine GT_st rfl rfl rfl rfl (V_lss rfl rfl rfl) ?_
          refine GT_nil ?_
          refine GE_seq ?_
          first | refine GE_condNot rfl (fun q2 => ?_) (fun q2 => ?_) | refine GE_cond rfl (fun q2 => ?_) (fun q2 => ?_) | refine GE_condNotB rfl (fun q2 => ?_) (fun q2 => ?_) | refine GE_condB rfl (fun q2 => ?_) (fun q2 => ?_)
          · have hkl : k < p.length := (by omega)
            refine GE_skip ?_
            refine GE_seq ?_
            refine GE_block ?_
            refine GE_seq ?_
            refine GE_plain (.st 0 (.st 1 (.ld 2 [] (.ld 3 [] .nil)))) rfl ?_
            refine GT_st rfl rfl rfl rfl (V_index rfl rfl rfl Tryd.underlying79 sz_83 (k := k) rfl hkl (hy.isSome (k := k) (by rw [plcs_len]; exact hkl))) ?_
            refine GT_st rfl rfl rfl rfl (V_loadN (vs := [_, _, _, _, _, _, _, _, _, _]) rfl rfl ag_83 sz_83 rfl (CellsAt.ownE hy ePlc_len (by rw [plcs_len]; exact hkl) (by rw [plcs_get hkl, ePlc_plc]))) ?_
            refine GT_alloc rfl rfl rfl rfl rfl zc_83 (fun _ => GR_nil) (fun b13 => ?_)
            refine GT_store (vs := [_, _, _, _, _, _, _, _, _, _]) (l' := [_, _, _, _, _, _, _, _, _, _]) rfl rfl rfl rfl rfl rfl rfl sz_83 rfl rfl (Nat.le_of_ble_eq_true rfl) rfl (GR_nil) ?_
            refine GT_nil ?_
            refine GE_seq ?_
            refine GE_seq ?_
            refine GE_plain (.st 0 (.st 1 (.st 2 (.st 3 (.st 4 (.st 5 (.st 6 (.st 7 (.st 8 (.st 9 .nil)))))))))) rfl ?_
            first | refine GT_st rfl rfl rfl rfl (V_field rfl rfl fo_83_2) ?_ | refine GT_st rfl rfl rfl rfl (V_fieldA rfl rfl fo_83_2) ?_
            refine GT_st rfl rfl rfl rfl (V_load rfl rfl ag_3 (CellAt.item rfl)) ?_
            refine GT_st rfl rfl rfl rfl (V_move rfl rfl) ?_
            refine GT_st rfl rfl rfl rfl (V_lss rfl rfl rfl) ?_
            refine GT_st rfl rfl rfl rfl (V_move rfl rfl) ?_
            first | refine GT_splitNot (d := 48) rfl (fun q3 => ?_) (fun q3 => ?_) | refine GT_split (d := 48) rfl (fun q3 => ?_) (fun q3 => ?_) | refine GT_splitNotB (d := 48) rfl (fun q3 => ?_) (fun q3 => ?_) | refine GT_splitB (d := 48) rfl (fun q3 => ?_) (fun q3 => ?_)
            · skip
              refine GT_st_g rfl rfl rfl rfl rfl rfl rfl (V_move rfl rfl) ?_
              first | refine GT_st_g rfl rfl rfl rfl rfl rfl rfl (V_field rfl rfl fo_83_3) ?_ | refine GT_st_g rfl rfl rfl rfl rfl rfl rfl (V_fieldA rfl rfl fo_83_3) ?_
              refine GT_st_g rfl rfl rfl rfl rfl rfl rfl (V_load rfl rfl ag_3 (CellAt.item rfl)) ?_
              refine GT_st_g rfl rfl rfl rfl rfl rfl rfl (V_lss rfl rfl rfl) ?_
              refine GT_st rfl rfl rfl rfl (V_pick_t rfl rfl rfl) ?_
              refine GT_nil ?_
              first | refine GE_condNot rfl (fun q4 => ?_) (fun q4 => ?_) | refine GE_cond rfl (fun q4 => ?_) (fun q4 => ?_) | refine GE_condNotB rfl (fun q4 => ?_) (fun q4 => ?_) | refine GE_condB rfl (fun q4 => ?_) (fun q4 => ?_)
              · skip
                refine GE_seq ?_
                refine GE_slots (L' := []) trivial ?_
                refine GE_plain (.st 0 (.st 1 (.st 2 .nil))) rfl ?_
                refine GT_st rfl rfl rfl rfl (V_assign rfl rfl) ?_
                refine GT_st rfl rfl rfl rfl (V_assign rfl rfl) ?_
                refine GT_st rfl rfl rfl rfl (V_assign rfl rfl) ?_
                refine GT_nil ?_
                refine GE_ret Tryd.func30 ⟨_, _, _, rfl, rfl, rfl, rfl⟩ (fun w hw => ?_)
                exact sp_nil (by rw [spE, if_pos hg, if_neg ht3, if_pos (midB_yes hkl (by omega))]) (by decide) hw
              · skip
                refine GE_skip ?_
                refine GE_seq ?_
                refine GE_slots (L' := [(1, _), (2, _), (9, _), (11, _), (13, _), (38, _), (39, _), (40, _), (49, _), (50, _), (51, _), (52, _)]) ⟨rfl, rfl, rfl, rfl, rfl, rfl, rfl, rfl, rfl, rfl, rfl, rfl, trivial⟩ ?_
                refine GE_plain (.st 0 (.st 1 (.st 2 (.st 3 .nil)))) rfl ?_
                first | refine GT_st rfl rfl rfl rfl (V_field rfl rfl fo_83_3) ?_ | refine GT_st rfl rfl rfl rfl (V_fieldA rfl rfl fo_83_3) ?_
                refine GT_st rfl rfl rfl rfl (V_load rfl rfl ag_3 (CellAt.item rfl)) ?_
                refine GT_st rfl rfl rfl rfl (V_move rfl rfl) ?_
                refine GT_st rfl rfl rfl rfl (V_leq rfl rfl rfl) ?_
                refine GT_nil ?_
                first | refine GE_condNot rfl (fun q5 => ?_) (fun q5 => ?_) | refine GE_cond rfl (fun q5 => ?_) (fun q5 => ?_) | refine GE_condNotB rfl (fun q5 => ?_) (fun q5 => ?_) | refine GE_condB rfl (fun q5 => ?_) (fun q5 => ?_)
                · skip
                  refine GE_slots (L' := [(1, _), (2, _), (9, _), (11, _), (38, _), (39, _), (40, _), (49, _), (50, _), (51, _), (52, _)]) ⟨rfl, rfl, rfl, rfl, rfl, rfl, rfl, rfl, rfl, rfl, rfl, trivial⟩ ?_
                  refine GE_plain (.st 0 (.st 1 (.ld 2 [] .nil))) rfl ?_
                  refine GT_st rfl rfl rfl rfl (V_move rfl rfl) ?_
                  refine GT_st rfl rfl rfl rfl (V_add rfl rfl rfl (wrap_i64 (by omega))) ?_
                  refine GT_ldv rfl rfl rfl rfl rfl (V_assign rfl rfl) (GR_nil) ?_
                  refine GT_nil ?_
                  refine GE_inBlock ?_
                  refine GE_plain (.st 0 (.ld 1 [] .nil)) rfl ?_
                  refine GT_st rfl rfl rfl rfl (V_add rfl rfl rfl (wrap_i64 (by omega))) ?_
                  refine GT_ldv rfl rfl rfl rfl rfl (V_move rfl rfl) (GR_nil) ?_
                  refine GT_nil ?_
                  first
                    | exact GE_to (ih (k + 1) ⟨by omega, fun i hi => by rcases Nat.lt_or_ge i k with r | r; exact hno i r; rw [show i = k by omega]; omega⟩ (by omega)) ⟨rfl, rfl, rfl, lookI rfl (by rw [cnt, if_pos q5]; rfl), rfl, rfl, rfl, trivial⟩ (HS.cons rfl HS.last)
                    | exact GE_to (ih (k + 1) ⟨by omega, fun i hi => by rcases Nat.lt_or_ge i k with r | r; exact hno i r; rw [show i = k by omega]; omega⟩ (by omega)) ⟨rfl, rfl, rfl, lookI rfl (by rw [cnt, if_neg q5]), rfl, rfl, rfl, trivial⟩ (HS.cons rfl HS.last)
                · skip
                  refine GE_skip ?_
                  refine GE_inBlock ?_
                  refine GE_slots (L' := [(1, _), (2, _), (9, _), (11, _), (38, _), (39, _), (40, _), (49, _), (50, _), (51, _), (52, _)]) ⟨rfl, rfl, rfl, rfl, rfl, rfl, rfl, rfl, rfl, rfl, rfl, trivial⟩ ?_
                  refine GE_plain (.st 0 (.ld 1 [] .nil)) rfl ?_
                  refine GT_st rfl rfl rfl rfl (V_add rfl rfl rfl (wrap_i64 (by omega))) ?_
                  refine GT_ldv rfl rfl rfl rfl rfl (V_move rfl rfl) (GR_nil) ?_
                  refine GT_nil ?_
                  first
                    | exact GE_to (ih (k + 1) ⟨by omega, fun i hi => by rcases Nat.lt_or_ge i k with r | r; exact hno i r; rw [show i = k by omega]; omega⟩ (by omega)) ⟨rfl, rfl, rfl, lookI rfl (by rw [cnt, if_pos q5]; rfl), rfl, rfl, rfl, trivial⟩ (HS.cons rfl HS.last)
                    | exact GE_to (ih (k + 1) ⟨by omega, fun i hi => by rcases Nat.lt_or_ge i k with r | r; exact hno i r; rw [show i = k by omega]; omega⟩ (by omega)) ⟨rfl, rfl, rfl, lookI rfl (by rw [cnt, if_neg q5]), rfl, rfl, rfl, trivial⟩ (HS.cons rfl HS.last)
            · skip
              refine GT_skip rfl rfl rfl rfl rfl (by decide) rfl rfl ?_
              refine GT_skip rfl rfl rfl rfl rfl (by decide) rfl rfl ?_
              refine GT_skip rfl rfl rfl rfl rfl (by decide) rfl rfl ?_
              refine GT_skip rfl rfl rfl rfl rfl (by decide) rfl rfl ?_
              refine GT_st rfl rfl rfl rfl (V_pick_f rfl rfl rfl) ?_
              refine GT_nil ?_
              refine GE_cond_f rfl ?_
              refine GE_skip ?_
              refine GE_seq ?_
              refine GE_slots (L' := [(1, _), (2, _), (9, _), (11, _), (13, _), (38, _), (39, _), (40, _), (49, _), (50, _), (51, _), (52, _)]) ⟨rfl, rfl, rfl, rfl, rfl, rfl, rfl, rfl, rfl, rfl, rfl, rfl, trivial⟩ ?_
              refine GE_plain (.st 0 (.st 1 (.st 2 (.st 3 .nil)))) rfl ?_
              first | refine GT_st rfl rfl rfl rfl (V_field rfl rfl fo_83_3) ?_ | refine GT_st rfl rfl rfl rfl (V_fieldA rfl rfl fo_83_3) ?_
              refine GT_st rfl rfl rfl rfl (V_load rfl rfl ag_3 (CellAt.item rfl)) ?_
              refine GT_st rfl rfl rfl rfl (V_move rfl rfl) ?_
              refine GT_st rfl rfl rfl rfl (V_leq rfl rfl rfl) ?_
              refine GT_nil ?_
              first | refine GE_condNot rfl (fun q5 => ?_) (fun q5 => ?_) | refine GE_cond rfl (fun q5 => ?_) (fun q5 => ?_) | refine GE_condNotB rfl (fun q5 => ?_) (fun q5 => ?_) | refine GE_condB rfl (fun q5 => ?_) (fun q5 => ?_)
              · skip
                refine GE_slots (L' := [(1, _), (2, _), (9, _), (11, _), (38, _), (39, _), (40, _), (49, _), (50, _), (51, _), (52, _)]) ⟨rfl, rfl, rfl, rfl, rfl, rfl, rfl, rfl, rfl, rfl, rfl, trivial⟩ ?_
                refine GE_plain (.st 0 (.st 1 (.ld 2 [] .nil))) rfl ?_
                refine GT_st rfl rfl rfl rfl (V_move rfl rfl) ?_
                refine GT_st rfl rfl rfl rfl (V_add rfl rfl rfl (wrap_i64 (by omega))) ?_
                refine GT_ldv rfl rfl rfl rfl rfl (V_assign rfl rfl) (GR_nil) ?_
                refine GT_nil ?_
                refine GE_inBlock ?_
                refine GE_plain (.st 0 (.ld 1 [] .nil)) rfl ?_
                refine GT_st rfl rfl rfl rfl (V_add rfl rfl rfl (wrap_i64 (by omega))) ?_
                refine GT_ldv rfl rfl rfl rfl rfl (V_move rfl rfl) (GR_nil) ?_
                refine GT_nil ?_
                first
                  | exact GE_to (ih (k + 1) ⟨by omega, fun i hi => by rcases Nat.lt_or_ge i k with r | r; exact hno i r; rw [show i = k by omega]; omega⟩ (by omega)) ⟨rfl, rfl, rfl, lookI rfl (by rw [cnt, if_pos q5]; rfl), rfl, rfl, rfl, trivial⟩ (HS.cons rfl HS.last)
                  | exact GE_to (ih (k + 1) ⟨by omega, fun i hi => by rcases Nat.lt_or_ge i k with r | r; exact hno i r; rw [show i = k by omega]; omega⟩ (by omega)) ⟨rfl, rfl, rfl, lookI rfl (by rw [cnt, if_neg q5]), rfl, rfl, rfl, trivial⟩ (HS.cons rfl HS.last)
              · skip
                refine GE_skip ?_
                refine GE_inBlock ?_
                refine GE_slots (L' := [(1, _), (2, _), (9, _), (11, _), (38, _), (39, _), (40, _), (49, _), (50, _), (51, _), (52, _)]) ⟨rfl, rfl, rfl, rfl, rfl, rfl, rfl, rfl, rfl, rfl, rfl, trivial⟩ ?_
                refine GE_plain (.st 0 (.ld 1 [] .nil)) rfl ?_
                refine GT_st rfl rfl rfl rfl (V_add rfl rfl rfl (wrap_i64 (by omega))) ?_
                refine GT_ldv rfl rfl rfl rfl rfl (V_move rfl rfl) (GR_nil) ?_
                refine GT_nil ?_
                first
                  | exact GE_to (ih (k + 1) ⟨by omega, fun i hi => by rcases Nat.lt_or_ge i k with r | r; exact hno i r; rw [show i = k by omega]; omega⟩ (by omega)) ⟨rfl, rfl, rfl, lookI rfl (by rw [cnt, if_pos q5]; rfl), rfl, rfl, rfl, trivial⟩ (HS.cons rfl HS.last)
                  | exact GE_to (ih (k + 1) ⟨by omega, fun i hi => by rcases Nat.lt_or_ge i k with r | r; exact hno i r; rw [show i = k by omega]; omega⟩ (by omega)) ⟨rfl, rfl, rfl, lookI rfl (by rw [cnt, if_neg q5]), rfl, rfl, rfl, trivial⟩ (HS.cons rfl HS.last)
          · obtain rfl : k = p.length := (by omega); have hmid := midB_no hno; have e0 : spE l p t = 0 := (by rw [spE, if_pos hg, if_neg ht3, if_neg (by rw [hmid]; decide)]); have hN : cnt p t p.length = spN p t := rfl; rw [hN] at hcl ⊢; generalize hNn : spN p t = N at *
            refine GE_exit rfl ?_
            refine GE_cut (ι := OI × OI) (fun z => [(2, I t), (9, ptr y.1 0), (11, I N), (14, .slice z.1.1 N z.1.2.1), (15, .slice z.2.1 (p.length - N) z.2.2.1)]) (fun z => (y.1, blk [.slice A l.length c, .slice y.2.1 p.length y.2.2.1, I (fin p)] 81) :: (y.2.2.2 ++ (z.1.2.2 ++ z.2.2.2))) (fun z => Own 7 30 ePrt (p.take N) (.slice z.1.1 N z.1.2.1) z.1.2.2 ∧ Own 7 30 ePrt (p.drop N) (.slice z.2.1 (p.length - N) z.2.2.1) z.2.2.2) ?_ (fun hcut => ?_)
            · rintro z ⟨hz1, hz2⟩; have eF : spF l p t = p.take N := (by rw [spF, if_pos e0, hNn]); have eS : spS l p t = (p.drop N).set 0 (gapd (pt p N) (bgn p N - t)) := (by rw [spS, if_pos e0, spB, hNn]); have lF : (spF l p t).length = N := (by rw [eF, List.length_take]; omega); have lS : (spS l p t).length = p.length - N := (by rw [eS, List.length_set, List.length_drop])
              refine GE_seq ?_
              refine GE_seq ?_
              refine GE_plain (.st 0 (.st 1 (.st 2 .nil))) rfl ?_
              refine GT_st rfl rfl rfl rfl (V_move rfl rfl) ?_
              refine GT_st rfl rfl rfl rfl (V_len rfl Tryd.underlying31 rfl) ?_
              refine GT_st rfl rfl rfl rfl (V_gtr rfl rfl rfl) ?_
              refine GT_nil ?_
              first | refine GE_condNot rfl (fun q6 => ?_) (fun q6 => ?_) | refine GE_cond rfl (fun q6 => ?_) (fun q6 => ?_) | refine GE_condNotB rfl (fun q6 => ?_) (fun q6 => ?_) | refine GE_condB rfl (fun q6 => ?_) (fun q6 => ?_)
              · have hNl : N < p.length := (by omega); have hbb := gd_bgn hG hNl; have hdl : (p.drop N).length = p.length - N := List.length_drop ..
                refine GE_plain (.st 0 (.st 1 (.st 2 (.st 3 (.st 4 (.st 5 (.st 6 (.st 7 (.st 8 (.st 9 (.st 10 (.st 11 (.st 12 (.ld 13 [] .nil)))))))))))))) rfl ?_
                refine GT_st rfl rfl rfl rfl (V_move rfl rfl) ?_
                refine GT_st rfl rfl rfl rfl (V_move rfl rfl) ?_
                first | refine GT_st rfl rfl rfl rfl (V_nilCheck rfl rfl) ?_ | refine GT_st rfl rfl rfl rfl (V_nilCheck_func rfl rfl) ?_ | refine GT_st rfl rfl rfl rfl (V_nilCheck_yield rfl rfl) ?_
                first | refine GT_st rfl rfl rfl rfl (V_field rfl rfl fo_81_1) ?_ | refine GT_st rfl rfl rfl rfl (V_fieldA rfl rfl fo_81_1) ?_
                refine GT_st rfl rfl rfl rfl (V_load rfl rfl ag_79 (CellAt.item rfl)) ?_
                refine GT_st rfl rfl rfl rfl (V_move rfl rfl) ?_
                refine GT_st rfl rfl rfl rfl (V_index rfl rfl rfl Tryd.underlying79 sz_83 (k := N) rfl hNl (hy.isSome (k := N) (by rw [plcs_len]; exact hNl))) ?_
                first | refine GT_st rfl rfl rfl rfl (V_field rfl rfl fo_83_2) ?_ | refine GT_st rfl rfl rfl rfl (V_fieldA rfl rfl fo_83_2) ?_
                refine GT_st rfl rfl rfl rfl (V_load rfl rfl ag_3 (CellAt.own (j := 8) hy ePlc_len (by rw [plcs_len]; exact hNl) (by rw [plcs_get hNl]; exact (show (ePlc (plc p N))[8]? = some (I (bgn p N)) from rfl)))) ?_
                refine GT_st rfl rfl rfl rfl (V_move rfl rfl) ?_
                refine GT_st rfl rfl rfl rfl (V_sub rfl rfl rfl (wrap_i64 (by omega))) ?_
                refine GT_st rfl rfl rfl rfl (V_index (k := 0) rfl rfl rfl Tryd.underlying31 sz_30 rfl (by omega) (hz2.isSome (k := 0) (by omega))) ?_
                first | refine GT_st rfl rfl rfl rfl (V_field rfl rfl fo_30_3) ?_ | refine GT_st rfl rfl rfl rfl (V_fieldA rfl rfl fo_30_3) ?_
                refine GT_storeF (enc := ePrt) (q := 0) (j := 3) (xx := gapd (pt p N) (bgn p N - t)) rfl rfl rfl rfl rfl rfl rfl sz_3 hz2 ePrt_len rfl (by omega) (by decide) (by rw [show (p.drop N).getD 0 default = pt p N by simp [pt, List.getD]]; rfl) (fun _ _ => GR_nil) (fun I5 hO5 => ?_)
                refine GT_nil ?_
                refine GE_seq ?_
                refine GE_slots (L' := [(14, _), (15, _)]) ⟨rfl, rfl, trivial⟩ ?_
                refine GE_plain (.st 0 (.st 1 (.st 2 (.st 3 (.st 4 .nil))))) rfl ?_
                refine GT_st rfl rfl rfl rfl (V_move rfl rfl) ?_
                refine GT_st rfl rfl rfl rfl (V_move rfl rfl) ?_
                refine GT_st rfl rfl rfl rfl (V_assign rfl rfl) ?_
                refine GT_st rfl rfl rfl rfl (V_assign rfl rfl) ?_
                refine GT_st rfl rfl rfl rfl (V_assign rfl rfl) ?_
                refine GT_nil ?_
                refine GE_ret Tryd.func30 ⟨_, _, _, rfl, rfl, rfl, rfl⟩ (fun w hw => ?_)
                refine ⟨(z.1, (z.2.1, z.2.2.1, I5)), ⟨?_, ?_⟩, ?_, hw.hs (C := cx Tryd.prog hm 0 0 _ none' fun _ _ => True) (HS.chunk HS.last)⟩
                · rw [lF, eF]; exact hz1
                · rw [lS, eS]; exact hO5
                · rw [lF, lS, e0]
              · skip
                refine GE_skip ?_
                refine GE_seq ?_
                refine GE_slots (L' := [(14, _), (15, _)]) ⟨rfl, rfl, trivial⟩ ?_
                refine GE_plain (.st 0 (.st 1 (.st 2 (.st 3 (.st 4 .nil))))) rfl ?_
                refine GT_st rfl rfl rfl rfl (V_move rfl rfl) ?_
                refine GT_st rfl rfl rfl rfl (V_move rfl rfl) ?_
                refine GT_st rfl rfl rfl rfl (V_assign rfl rfl) ?_
                refine GT_st rfl rfl rfl rfl (V_assign rfl rfl) ?_
                refine GT_st rfl rfl rfl rfl (V_assign rfl rfl) ?_
                refine GT_nil ?_
                refine GE_ret Tryd.func30 ⟨_, _, _, rfl, rfl, rfl, rfl⟩ (fun w hw => ?_)
                have hNe : N = p.length := (by omega)
                refine ⟨z, ⟨?_, ?_⟩, ?_, hw.hs (C := cx Tryd.prog hm 0 0 _ none' fun _ _ => True) (HS.chunk HS.last)⟩
                · rw [lF, eF]; exact hz1
                · rw [lS, eS, show (p.drop N).set 0 (gapd (pt p N) (bgn p N - t)) = p.drop N by rw [List.drop_eq_nil_of_le (by omega)]; rfl]; exact hz2
                · rw [lF, lS, e0]
            · skip
              refine GE_slots (L' := [(1, _), (2, _), (9, _), (11, _)]) ⟨rfl, rfl, rfl, rfl, trivial⟩ ?_
              refine GE_drawn (.st 1 (.st 2 (.st 3 (.st 6 (.st 7 (.st 8 (.br (.ld 0 [1, 2, 3, 6, 7, 8] (.br (.ld 4 [6, 7, 8] (.ld 5 [1, 2, 3, 6, 7, 8] (.ld 9 [] (.st 10 (.st 11 .nil))))) (.ld 5 [1, 2, 3, 6, 7, 8] (.ld 4 [6, 7, 8] (.ld 9 [] (.st 10 (.st 11 .nil))))))) (.ld 5 [1, 2, 3, 6, 7, 8] (.ld 0 [1, 2, 3, 6, 7, 8] (.ld 4 [6, 7, 8] (.ld 9 [] (.st 10 (.st 11 .nil))))))))))))) [0, 4, 5, 9] (by decide +kernel) ?_
              refine GT_st rfl rfl rfl rfl (V_move rfl rfl) ?_
              refine GT_st rfl rfl rfl rfl (V_move rfl rfl) ?_
              refine GT_st rfl rfl rfl rfl (V_sliceToL (l := p) (hi := N) rfl rfl rfl Tryd.underlying31 (by rw [sz_30]; rfl) rfl hcl hc2) ?_
              refine GT_st rfl rfl rfl rfl (V_move rfl rfl) ?_
              refine GT_st rfl rfl rfl rfl (V_move rfl rfl) ?_
              refine GT_st rfl rfl rfl rfl (V_sliceFromL (l := p) (lo := N) rfl rfl rfl Tryd.underlying31 sz_30 rfl hcl) ?_
              refine GT_br ?_ ?_
              · skip
                refine GT_buildSlice (z := []) rfl rfl rfl rfl rfl Tryd.underlying31 zc_30 sz_30 (by decide) rfl rfl (fun _ => GR_cons rfl rfl rfl rfl (V_move rfl rfl) (GR_cons rfl rfl rfl rfl (V_move rfl rfl) (GR_cons rfl rfl rfl rfl (V_sliceToL (l := p) (hi := N) rfl rfl rfl Tryd.underlying31 (by rw [sz_30]; rfl) rfl hcl hc2) (GR_cons rfl rfl rfl rfl (V_move rfl rfl) (GR_cons rfl rfl rfl rfl (V_move rfl rfl) (GR_cons rfl rfl rfl rfl (V_sliceFromL (l := p) (lo := N) rfl rfl rfl Tryd.underlying31 sz_30 rfl hcl) (GR_nil))))))) (fun b61 => ?_)
                refine GT_br ?_ ?_
                · skip
                  refine GT_append (enc := ePrt) (l := []) (I := [(b61, blk [] 30)]) (m := p.take N) rfl rfl rfl rfl rfl rfl rfl (Own.lit (l := []) rfl rfl (by decide)) (fun w m => (hp.sh m).take N) Tryd.underlying31 zc_30 sz_30 ⟨rfl, by decide⟩ by_30 ⟨by simp only [List.length_take, List.length_nil]; omega, by simp only [List.length_take, List.length_nil]; omega⟩ ePrt_len ePrt_one (fun _ _ _ _ => GR_cons rfl rfl rfl rfl (V_move rfl rfl) (GR_cons rfl rfl rfl rfl (V_move rfl rfl) (GR_cons rfl rfl rfl rfl (V_sliceFromL (l := p) (lo := N) rfl rfl rfl Tryd.underlying31 sz_30 rfl hcl) (GR_nil)))) (fun A3 c3 I3 hO3 => ?_)
                  refine GT_buildSlice (z := []) rfl rfl rfl rfl rfl Tryd.underlying31 zc_30 sz_30 (by decide) rfl rfl (fun _ => GR_cons rfl rfl rfl rfl (V_move rfl rfl) (GR_cons rfl rfl rfl rfl (V_move rfl rfl) (GR_cons rfl rfl rfl rfl (V_sliceToL (l := p) (hi := N) rfl rfl rfl Tryd.underlying31 (by rw [sz_30]; rfl) rfl hcl hc2) (GR_cons rfl rfl rfl rfl (V_move rfl rfl) (GR_cons rfl rfl rfl rfl (V_move rfl rfl) (GR_cons rfl rfl rfl rfl (V_sliceFromL (l := p) (lo := N) rfl rfl rfl Tryd.underlying31 sz_30 rfl hcl) (GR_nil))))))) (fun b66 => ?_)
                  refine GT_append (enc := ePrt) (l := []) (I := [(b66, blk [] 30)]) (m := p.drop N) rfl rfl rfl rfl rfl rfl rfl (Own.lit (l := []) rfl rfl (by decide)) (fun w m => (hp.sh m).drop N hc2) Tryd.underlying31 zc_30 sz_30 ⟨rfl, by decide⟩ by_30 ⟨by simp only [List.length_drop, List.length_nil]; omega, by simp only [List.length_drop, List.length_nil]; omega⟩ ePrt_len ePrt_one (fun _ _ _ _ => GR_nil) (fun A4 c4 I4 hO4 => ?_)
                  refine GT_st rfl rfl rfl rfl (V_assign rfl rfl) ?_
                  refine GT_st rfl rfl rfl rfl (V_assign rfl rfl) ?_
                  refine GT_nil ?_
                  exact GE_to (hcut ((A3, c3, I3), (A4, c4, I4)) ⟨by have := hO3; rw [List.nil_append, show (p.take N).length = N by rw [List.length_take]; omega] at this; exact this, by have := hO4; rw [List.nil_append, List.length_drop] at this; exact this⟩) ⟨rfl, rfl, rfl, lookS rfl (by rw [List.nil_append, List.length_take]; omega), lookS rfl (by rw [List.nil_append, List.length_drop]), trivial⟩ (HS.cons rfl (HS.chunk (HS.chunk HS.last)))
                · skip
                  refine GT_buildSlice (z := []) rfl rfl rfl rfl rfl Tryd.underlying31 zc_30 sz_30 (by decide) rfl rfl (fun _ => GR_cons rfl rfl rfl rfl (V_move rfl rfl) (GR_cons rfl rfl rfl rfl (V_move rfl rfl) (GR_cons rfl rfl rfl rfl (V_sliceToL (l := p) (hi := N) rfl rfl rfl Tryd.underlying31 (by rw [sz_30]; rfl) rfl hcl hc2) (GR_cons rfl rfl rfl rfl (V_move rfl rfl) (GR_cons rfl rfl rfl rfl (V_move rfl rfl) (GR_cons rfl rfl rfl rfl (V_sliceFromL (l := p) (lo := N) rfl rfl rfl Tryd.underlying31 sz_30 rfl hcl) (GR_nil))))))) (fun b66 => ?_)
                  refine GT_append (enc := ePrt) (l := []) (I := [(b61, blk [] 30)]) (m := p.take N) rfl rfl rfl rfl rfl rfl rfl (Own.lit (l := []) rfl rfl (by decide)) (fun w m => (hp.sh m).take N) Tryd.underlying31 zc_30 sz_30 ⟨rfl, by decide⟩ by_30 ⟨by simp only [List.length_take, List.length_nil]; omega, by simp only [List.length_take, List.length_nil]; omega⟩ ePrt_len ePrt_one (fun _ _ _ _ => GR_cons rfl rfl rfl rfl (V_move rfl rfl) (GR_cons rfl rfl rfl rfl (V_move rfl rfl) (GR_cons rfl rfl rfl rfl (V_sliceFromL (l := p) (lo := N) rfl rfl rfl Tryd.underlying31 sz_30 rfl hcl) (GR_nil)))) (fun A3 c3 I3 hO3 => ?_)
                  refine GT_append (enc := ePrt) (l := []) (I := [(b66, blk [] 30)]) (m := p.drop N) rfl rfl rfl rfl rfl rfl rfl (Own.lit (l := []) rfl rfl (by decide)) (fun w m => (hp.sh m).drop N hc2) Tryd.underlying31 zc_30 sz_30 ⟨rfl, by decide⟩ by_30 ⟨by simp only [List.length_drop, List.length_nil]; omega, by simp only [List.length_drop, List.length_nil]; omega⟩ ePrt_len ePrt_one (fun _ _ _ _ => GR_nil) (fun A4 c4 I4 hO4 => ?_)
                  refine GT_st rfl rfl rfl rfl (V_assign rfl rfl) ?_
                  refine GT_st rfl rfl rfl rfl (V_assign rfl rfl) ?_
                  refine GT_nil ?_
                  exact GE_to (hcut ((A3, c3, I3), (A4, c4, I4)) ⟨by have := hO3; rw [List.nil_append, show (p.take N).length = N by rw [List.length_take]; omega] at this; exact this, by have := hO4; rw [List.nil_append, List.length_drop] at this; exact this⟩) ⟨rfl, rfl, rfl, lookS rfl (by rw [List.nil_append, List.length_take]; omega), lookS rfl (by rw [List.nil_append, List.length_drop]), trivial⟩ (HS.cons rfl (HS.chunk (HS.chunk HS.last)))
              · skip
                refine GT_buildSlice (z := []) rfl rfl rfl rfl rfl Tryd.underlying31 zc_30 sz_30 (by decide) rfl rfl (fun _ => GR_cons rfl rfl rfl rfl (V_move rfl rfl) (GR_cons rfl rfl rfl rfl (V_move rfl rfl) (GR_cons rfl rfl rfl rfl (V_sliceToL (l := p) (hi := N) rfl rfl rfl Tryd.underlying31 (by rw [sz_30]; rfl) rfl hcl hc2) (GR_cons rfl rfl rfl rfl (V_move rfl rfl) (GR_cons rfl rfl rfl rfl (V_move rfl rfl) (GR_cons rfl rfl rfl rfl (V_sliceFromL (l := p) (lo := N) rfl rfl rfl Tryd.underlying31 sz_30 rfl hcl) (GR_nil))))))) (fun b66 => ?_)
                refine GT_buildSlice (z := []) rfl rfl rfl rfl rfl Tryd.underlying31 zc_30 sz_30 (by decide) rfl rfl (fun _ => GR_cons rfl rfl rfl rfl (V_move rfl rfl) (GR_cons rfl rfl rfl rfl (V_move rfl rfl) (GR_cons rfl rfl rfl rfl (V_sliceToL (l := p) (hi := N) rfl rfl rfl Tryd.underlying31 (by rw [sz_30]; rfl) rfl hcl hc2) (GR_cons rfl rfl rfl rfl (V_move rfl rfl) (GR_cons rfl rfl rfl rfl (V_move rfl rfl) (GR_cons rfl rfl rfl rfl (V_sliceFromL (l := p) (lo := N) rfl rfl rfl Tryd.underlying31 sz_30 rfl hcl) (GR_nil))))))) (fun b61 => ?_)
                refine GT_append (enc := ePrt) (l := []) (I := [(b61, blk [] 30)]) (m := p.take N) rfl rfl rfl rfl rfl rfl rfl (Own.lit (l := []) rfl rfl (by decide)) (fun w m => (hp.sh m).take N) Tryd.underlying31 zc_30 sz_30 ⟨rfl, by decide⟩ by_30 ⟨by simp only [List.length_take, List.length_nil]; omega, by simp only [List.length_take, List.length_nil]; omega⟩ ePrt_len ePrt_one (fun _ _ _ _ => GR_cons rfl rfl rfl rfl (V_move rfl rfl) (GR_cons rfl rfl rfl rfl (V_move rfl rfl) (GR_cons rfl rfl rfl rfl (V_sliceFromL (l := p) (lo := N) rfl rfl rfl Tryd.underlying31 sz_30 rfl hcl) (GR_nil)))) (fun A3 c3 I3 hO3 => ?_)
                refine GT_append (enc := ePrt) (l := []) (I := [(b66, blk [] 30)]) (m := p.drop N) rfl rfl rfl rfl rfl rfl rfl (Own.lit (l := []) rfl rfl (by decide)) (fun w m => (hp.sh m).drop N hc2) Tryd.underlying31 zc_30 sz_30 ⟨rfl, by decide⟩ by_30 ⟨by simp only [List.length_drop, List.length_nil]; omega, by simp only [List.length_drop, List.length_nil]; omega⟩ ePrt_len ePrt_one (fun _ _ _ _ => GR_nil) (fun A4 c4 I4 hO4 => ?_)
                refine GT_st rfl rfl rfl rfl (V_assign rfl rfl) ?_
                refine GT_st rfl rfl rfl rfl (V_assign rfl rfl) ?_
                refine GT_nil ?_
                exact GE_to (hcut ((A3, c3, I3), (A4, c4, I4)) ⟨by have := hO3; rw [List.nil_append, show (p.take N).length = N by rw [List.length_take]; omega] at this; exact this, by have := hO4; rw [List.nil_append, List.length_drop] at this; exact this⟩) ⟨rfl, rfl, rfl, lookS rfl (by rw [List.nil_append, List.length_take]; omega), lookS rfl (by rw [List.nil_append, List.length_drop]), trivial⟩ (HS.cons rfl (HS.chunk (HS.chunk HS.last)))
        · exact ⟨Nat.zero_le _, fun i hi => absurd hi (Nat.not_lt_zero _)⟩
  · have e : spE l p t = gErr l p := by rw [spE, if_neg hg]
    refine Ret_of (vs := [_, _, _]) hm none' Tryd.func30 rfl Tryd.ntmps30 rfl ?_
    dsimp only [slotsOf]
    refine GE_seq ?_
    refine GE_plain (.st 0 (.st 1 (.st 2 .nil))) rfl ?_
    refine GT_st rfl rfl rfl rfl (V_assign rfl rfl) ?_
    refine GT_st rfl rfl rfl rfl (V_assign rfl rfl) ?_
    refine GT_st rfl rfl rfl rfl (V_assign rfl rfl) ?_
    refine GT_nil ?_
    refine GE_seq ?_
    refine GE_plain (.st 0 (.st 1 (.ld 2 [] (.st 3 (.st 4 (.st 5 (.st 6 (.st 7 .nil)))))))) rfl ?_
    refine GT_st rfl rfl rfl rfl (V_move rfl rfl) ?_
    refine GT_st rfl rfl rfl rfl (V_move rfl rfl) ?_
    refine GT_call0 rfl rfl rfl rfl rfl rfl rfl rfl rn_46 (fun w hw => C_new_bad (h.sh hw) (hp.sh hw) hg) (GR_nil) ?_
    refine GT_st rfl rfl rfl rfl (V_move rfl rfl) ?_
    refine GT_st rfl rfl rfl rfl (V_extract rfl rfl rfl) ?_
    refine GT_st rfl rfl rfl rfl (V_extract rfl rfl rfl) ?_
    refine GT_st rfl rfl rfl rfl (V_assign rfl rfl) ?_
    refine GT_st rfl rfl rfl rfl (V_assign rfl rfl) ?_
    refine GT_nil ?_
    refine GE_seq ?_
    refine GE_seq ?_
    refine GE_slots (L' := [(1, _), (2, _), (9, _), (10, _)]) ⟨rfl, rfl, rfl, rfl, trivial⟩ ?_
    refine GE_plain (.st 0 (.st 1 .nil)) rfl ?_
    refine GT_st rfl rfl rfl rfl (V_move rfl rfl) ?_
    refine GT_st rfl rfl rfl rfl (V_isT (V_neq rfl rfl rfl) hg) ?_
    refine GT_nil ?_
    refine GE_cond_t rfl ?_
    refine GE_seq ?_
    refine GE_slots (L' := [(10, _)]) ⟨rfl, trivial⟩ ?_
    refine GE_plain (.st 0 (.st 1 (.st 2 (.st 3 .nil)))) rfl ?_
    refine GT_st rfl rfl rfl rfl (V_move rfl rfl) ?_
    refine GT_st rfl rfl rfl rfl (V_assign rfl rfl) ?_
    refine GT_st rfl rfl rfl rfl (V_assign rfl rfl) ?_
    refine GT_st rfl rfl rfl rfl (V_assign rfl rfl) ?_
    refine GT_nil ?_
    refine GE_ret Tryd.func30 ⟨_, _, _, rfl, rfl, rfl, rfl⟩ (fun w hw => ?_)
    exact sp_nil e hg hw
set_option maxRecDepth 10000 in
set_option maxHeartbeats 1000000 in
theorem C_rSplit (h : Tks w A l) (hp : RdL w 7 ePrt A2 p) : SpCon 31 l p t A A2 c c2 w := by
  refine Ret_of (vs := [_, _, _]) hm none' Tryd.func31 rfl Tryd.ntmps31 rfl ?_
  dsimp only [slotsOf]
  refine GE_seq ?_
  refine GE_plain (.st 0 (.st 1 (.st 2 .nil))) rfl ?_
  refine GT_st rfl rfl rfl rfl (V_assign rfl rfl) ?_
  refine GT_st rfl rfl rfl rfl (V_assign rfl rfl) ?_
  refine GT_st rfl rfl rfl rfl (V_assign rfl rfl) ?_
  refine GT_nil ?_
  refine GE_seq ?_
  refine GE_plain (.st 0 (.st 1 (.ld 2 [] (.st 3 (.st 4 (.st 5 (.st 6 (.st 7 (.st 8 (.st 9 .nil)))))))))) rfl ?_
  refine GT_st rfl rfl rfl rfl (V_move rfl rfl) ?_
  refine GT_st rfl rfl rfl rfl (V_move rfl rfl) ?_
  refine GT_call rfl rfl rfl rfl rfl rfl rfl rfl rn_36 (fun w hw => C_rStarts (h.sh hw) (hp.sh hw)) (fun _ _ => GR_nil) (fun y hy => ?_)
  refine GT_st rfl rfl rfl rfl (V_move rfl rfl) ?_
  refine GT_st rfl rfl rfl rfl (V_extract rfl rfl rfl) ?_
  refine GT_st rfl rfl rfl rfl (V_extract rfl rfl rfl) ?_
  refine GT_st rfl rfl rfl rfl (V_extract rfl rfl rfl) ?_
  refine GT_st rfl rfl rfl rfl (V_assign rfl rfl) ?_
  refine GT_st rfl rfl rfl rfl (V_assign rfl rfl) ?_
  refine GT_st rfl rfl rfl rfl (V_assign rfl rfl) ?_
  refine GT_nil ?_
  refine GE_seq ?_
  refine GE_seq ?_
  refine GE_slots (L' := [(1, _), (2, _), (9, _), (10, _), (11, _)]) ⟨rfl, rfl, rfl, rfl, rfl, trivial⟩ ?_
  refine GE_plain (.st 0 (.st 1 .nil)) rfl ?_
  refine GT_st rfl rfl rfl rfl (V_move rfl rfl) ?_
  refine GT_st rfl rfl rfl rfl (V_neq rfl rfl rfl) ?_
  refine GT_nil ?_
  first | refine GE_condNot rfl (fun q1 => ?_) (fun q1 => ?_) | refine GE_cond rfl (fun q1 => ?_) (fun q1 => ?_) | refine GE_condNotB rfl (fun q1 => ?_) (fun q1 => ?_) | refine GE_condB rfl (fun q1 => ?_) (fun q1 => ?_)
  · skip
    refine GE_seq ?_
    refine GE_slots (L' := [(11, _)]) ⟨rfl, trivial⟩ ?_
    refine GE_plain (.st 0 (.st 1 (.st 2 (.st 3 .nil)))) rfl ?_
    refine GT_st rfl rfl rfl rfl (V_move rfl rfl) ?_
    refine GT_st rfl rfl rfl rfl (V_assign rfl rfl) ?_
    refine GT_st rfl rfl rfl rfl (V_assign rfl rfl) ?_
    refine GT_st rfl rfl rfl rfl (V_assign rfl rfl) ?_
    refine GT_nil ?_
    refine GE_ret Tryd.func31 ⟨_, _, _, rfl, rfl, rfl, rfl⟩ (fun w hw => ?_)
    exact sp_nil (by rw [spE, if_neg q1]) q1 hw
  · have hP := gErr_zero.1 q1; have hG := gd_of hP; have eL : stL l p = bgns p p.length := if_pos q1; have eN : stN l p = fin p := if_pos q1; rw [eL, bgns_len] at hy; rw [eL, eN, bgns_len]
    refine GE_skip ?_
    refine GE_seq ?_
    refine GE_seq ?_
    refine GE_plain (.st 0 (.st 1 (.st 2 (.st 3 (.st 4 (.st 5 (.st 6 .nil))))))) rfl ?_
    refine GT_st rfl rfl rfl rfl (V_move rfl rfl) ?_
    refine GT_st rfl rfl rfl rfl (V_lss rfl rfl rfl) ?_
    refine GT_st rfl rfl rfl rfl (V_move rfl rfl) ?_
    first | refine GT_splitNot (d := 29) rfl (fun h1 => ?_) (fun h1 => ?_) | refine GT_split (d := 29) rfl (fun h1 => ?_) (fun h1 => ?_) | refine GT_splitNotB (d := 29) rfl (fun h1 => ?_) (fun h1 => ?_) | refine GT_splitB (d := 29) rfl (fun h1 => ?_) (fun h1 => ?_)
    · skip
      refine GT_skip rfl rfl rfl rfl rfl (by decide) rfl rfl ?_
      refine GT_skip rfl rfl rfl rfl rfl (by decide) rfl rfl ?_
      refine GT_skip rfl rfl rfl rfl rfl (by decide) rfl rfl ?_
      refine GT_st rfl rfl rfl rfl (V_pick_t rfl rfl rfl) ?_
      refine GT_nil ?_
      refine GE_cond_t rfl ?_
      refine GE_seq ?_
      refine GE_slots (L' := []) trivial ?_
      refine GE_plain (.st 0 (.st 1 (.st 2 .nil))) rfl ?_
      refine GT_st rfl rfl rfl rfl (V_assign rfl rfl) ?_
      refine GT_st rfl rfl rfl rfl (V_assign rfl rfl) ?_
      refine GT_st rfl rfl rfl rfl (V_assign rfl rfl) ?_
      refine GT_nil ?_
      refine GE_ret Tryd.func31 ⟨_, _, _, rfl, rfl, rfl, rfl⟩ (fun w hw => ?_)
      exact sp_nil (by rw [spE, if_pos q1, if_pos (by omega)]) (by decide) hw
    · skip
      refine GT_st_g rfl rfl rfl rfl rfl rfl rfl (V_move rfl rfl) ?_
      refine GT_st_g rfl rfl rfl rfl rfl rfl rfl (V_move rfl rfl) ?_
      refine GT_st_g rfl rfl rfl rfl rfl rfl rfl (V_gtr rfl rfl rfl) ?_
      refine GT_st rfl rfl rfl rfl (V_pick_f rfl rfl rfl) ?_
      refine GT_nil ?_
      first | refine GE_condNot rfl (fun q2 => ?_) (fun q2 => ?_) | refine GE_cond rfl (fun q2 => ?_) (fun q2 => ?_) | refine GE_condNotB rfl (fun q2 => ?_) (fun q2 => ?_) | refine GE_condB rfl (fun q2 => ?_) (fun q2 => ?_)
      · skip
        refine GE_seq ?_
        refine GE_slots (L' := []) trivial ?_
        refine GE_plain (.st 0 (.st 1 (.st 2 .nil))) rfl ?_
        refine GT_st rfl rfl rfl rfl (V_assign rfl rfl) ?_
        refine GT_st rfl rfl rfl rfl (V_assign rfl rfl) ?_
        refine GT_st rfl rfl rfl rfl (V_assign rfl rfl) ?_
        refine GT_nil ?_
        refine GE_ret Tryd.func31 ⟨_, _, _, rfl, rfl, rfl, rfl⟩ (fun w hw => ?_)
        exact sp_nil (by rw [spE, if_pos q1, if_pos (by omega)]) (by decide) hw
      · have ht3 : ¬ (t < 0 ∨ fin p < t) := (by omega); have hf := hP.fin; have hmo := hP.most; have hNl := spN_le p t; have hit : ∀ i, i < p.length → (i < spN p t ↔ en p i ≤ t) := (fun i hi => cnt_iff hP t p.length (Nat.le_refl _) i hi)
        refine GE_skip ?_
        refine GE_seq ?_
        refine GE_slots (L' := [(1, _), (2, _), (9, _)]) ⟨rfl, rfl, rfl, trivial⟩ ?_
        refine GE_plain (.st 0 (.st 1 .nil)) rfl ?_
        refine GT_st rfl rfl rfl rfl (V_assign rfl rfl) ?_
        refine GT_st rfl rfl rfl rfl (V_assign rfl rfl) ?_
        refine GT_nil ?_
        refine GE_seq ?_
        refine GE_seq ?_
        refine GE_plain (.st 0 .nil) rfl ?_
        refine GT_st rfl rfl rfl rfl (V_assign rfl rfl) ?_
        refine GT_nil ?_
        refine GE_block ?_
        refine GE_to (GE_loop (ι := Nat × OI × OI) (fun z => p.length - z.1) (fun z => [(1, .slice A2 p.length c2), (2, I t), (9, .slice y.1 p.length y.2.1), (12, .slice z.2.1.1 (min z.1 (spN p t)) z.2.1.2.1), (13, .slice z.2.2.1 (z.1 - spN p t) z.2.2.2.1), (14, I z.1)]) (fun z => y.2.2 ++ (z.2.1.2.2 ++ z.2.2.2.2)) (fun z => z.1 ≤ p.length ∧ (∀ i, i < z.1 → ¬ (bgn p i < t ∧ t < en p i)) ∧ Own 7 30 ePrt (p.take (min z.1 (spN p t))) (.slice z.2.1.1 (min z.1 (spN p t)) z.2.1.2.1) z.2.1.2.2 ∧ Own 7 30 ePrt ((spB p t).take (z.1 - spN p t)) (.slice z.2.2.1 (z.1 - spN p t) z.2.2.2.1) z.2.2.2.2) ?_ (0, (none, 0, []), (none, 0, [])) ?_) ⟨rfl, rfl, rfl, lookS rfl (by dsimp only; omega), lookS rfl (by dsimp only; omega), rfl, trivial⟩ (HS.eq (X := y.2.2) HS.last (by simp))
        · rintro ⟨i, ⟨A3, c3, I3⟩, ⟨A4, c4, I4⟩⟩ ⟨hi, hno, hO3, hO4⟩ ih; dsimp only at hi hno hO3 hO4 ih ⊢
          refine GE_seq ?_
          refine GE_seq ?_
          refine GE_plain (.st 0 (.st 1 (.st 2 (.st 3 .nil)))) rfl ?_
          refine GT_st rfl rfl rfl rfl (V_move rfl rfl) ?_
          refine GT_st rfl rfl rfl rfl (V_move rfl rfl) ?_
          refine GT_st rfl rfl rfl rfl (V_len rfl Tryd.underlying31 rfl) ?_
          refine GT_st rfl rfl rfl rfl (V_lss rfl rfl rfl) ?_
          refine GT_nil ?_
          first | refine GE_condNot rfl (fun q3 => ?_) (fun q3 => ?_) | refine GE_cond rfl (fun q3 => ?_) (fun q3 => ?_) | refine GE_condNotB rfl (fun q3 => ?_) (fun q3 => ?_) | refine GE_condB rfl (fun q3 => ?_) (fun q3 => ?_)
          · have hil : i < p.length := (by omega); have hpr := gd_prt hG hil; have hbb := gd_bgn hG hil; have hii := hit i hil
            refine GE_skip ?_
            refine GE_seq ?_
            refine GE_block ?_
            refine GE_seq ?_
            refine GE_slots (L' := [(1, _), (2, _), (9, _), (12, _), (13, _), (14, _)]) ⟨rfl, rfl, rfl, rfl, rfl, rfl, trivial⟩ ?_
            refine GE_drawn (.st 0 (.st 1 (.st 2 (.st 3 (.st 4 (.st 5 (.st 6 (.st 7 (.ld 8 [0, 1, 2, 3] (.st 9 (.st 10 .nil))))))))))) [8] (by decide +kernel) ?_
            refine GT_st rfl rfl rfl rfl (V_move rfl rfl) ?_
            refine GT_st rfl rfl rfl rfl (V_move rfl rfl) ?_
            refine GT_st rfl rfl rfl rfl (V_index rfl rfl rfl Tryd.underlying62 sz_3 (k := i) rfl hil (hy.isSome (k := i) (by rw [bgns_len]; exact hil))) ?_
            refine GT_st rfl rfl rfl rfl (V_load rfl rfl ag_3 (CellAt.own0 (k := i) hy eI_len (by rw [bgns_len]; exact hil) (by rw [bgns_get hil]; rfl))) ?_
            refine GT_st rfl rfl rfl rfl (V_move rfl rfl) ?_
            refine GT_st rfl rfl rfl rfl (V_move rfl rfl) ?_
            refine GT_st rfl rfl rfl rfl (V_index rfl rfl rfl Tryd.underlying31 sz_30 (k := i) rfl hil (hp.isSome hil)) ?_
            refine GT_st rfl rfl rfl rfl (V_loadN (vs := [_, _, _, _, _, _, _]) rfl rfl ag_30 sz_30 rfl (show CellsAt _ _ _ (ePrt (pt p i)) from hp.ats noM hil)) ?_
            refine GT_call0 rfl rfl rfl rfl rfl rfl rfl rfl rn_56 (fun w hw => C_rLong (x := pt p i) (by omega)) (GR_cons rfl rfl rfl rfl (V_move rfl rfl) (GR_cons rfl rfl rfl rfl (V_move rfl rfl) (GR_cons rfl rfl rfl rfl (V_index rfl rfl rfl Tryd.underlying62 sz_3 (k := i) rfl hil (hy.isSome (k := i) (by rw [bgns_len]; exact hil))) (GR_cons rfl rfl rfl rfl (V_load rfl rfl ag_3 (CellAt.own0 (k := i) hy eI_len (by rw [bgns_len]; exact hil) (by rw [bgns_get hil]; rfl))) (GR_nil))))) ?_
            refine GT_st rfl rfl rfl rfl (V_add rfl rfl rfl ((wrap_i64 (by omega)).trans (show _ = en p i by omega))) ?_
            refine GT_st rfl rfl rfl rfl (V_assign rfl rfl) ?_
            refine GT_nil ?_
            refine GE_cut (ι := Unit) (fun _ => [(1, .slice A2 p.length c2), (2, I t), (9, .slice y.1 p.length y.2.1), (12, .slice A3 (min i (spN p t)) c3), (13, .slice A4 (i - spN p t) c4), (14, I i), (15, I (en p i))]) (fun _ => y.2.2 ++ (I3 ++ I4)) (fun _ => ¬ (bgn p i < t ∧ t < en p i)) ?_ (fun hk => ?_)
            · rintro _ hnn
              refine GE_seq ?_
              refine GE_seq ?_
              have hno2 : ∀ j, j < i + 1 → ¬ (bgn p j < t ∧ t < en p j) := (fun j hj => by rcases Nat.lt_or_ge j i with r | r; exact hno j r; rw [show j = i by omega]; omega)
              refine GE_plain (.st 0 (.st 1 (.st 2 .nil))) rfl ?_
              refine GT_st rfl rfl rfl rfl (V_move rfl rfl) ?_
              refine GT_st rfl rfl rfl rfl (V_move rfl rfl) ?_
              refine GT_st rfl rfl rfl rfl (V_leq rfl rfl rfl) ?_
              refine GT_nil ?_
              first | refine GE_condNot rfl (fun q6 => ?_) (fun q6 => ?_) | refine GE_cond rfl (fun q6 => ?_) (fun q6 => ?_) | refine GE_condNotB rfl (fun q6 => ?_) (fun q6 => ?_) | refine GE_condB rfl (fun q6 => ?_) (fun q6 => ?_)
              · have hin := hii.2 q6
                refine GE_seq ?_
                refine GE_slots (L' := [(1, _), (2, _), (9, _), (12, _), (13, _), (14, _)]) ⟨rfl, rfl, rfl, rfl, rfl, rfl, trivial⟩ ?_
                refine GE_plain (.st 0 (.st 1 (.st 2 (.st 3 (.st 4 (.ld 5 [] (.ld 6 [] (.ld 7 [] .nil)))))))) rfl ?_
                refine GT_st rfl rfl rfl rfl (V_move rfl rfl) ?_
                refine GT_st rfl rfl rfl rfl (V_move rfl rfl) ?_
                refine GT_st rfl rfl rfl rfl (V_move rfl rfl) ?_
                refine GT_st rfl rfl rfl rfl (V_index rfl rfl rfl Tryd.underlying31 sz_30 (k := i) rfl hil (hp.isSome hil)) ?_
                refine GT_st rfl rfl rfl rfl (V_loadN (vs := [_, _, _, _, _, _, _]) rfl rfl ag_30 sz_30 rfl (show CellsAt _ _ _ (ePrt (pt p i)) from hp.ats noM hil)) ?_
                refine GT_buildSlice (z := [_, _, _, _, _, _, _]) rfl rfl rfl rfl rfl Tryd.underlying31 zc_30 sz_30 (by decide) rfl rfl (fun _ => GR_nil) (fun b69 => ?_)
                refine GT_append (enc := ePrt) (l := p.take (min i (spN p t))) (m := [pt p i]) rfl rfl rfl rfl rfl rfl rfl hO3 (fun w m => RdL.own' m ePrt_len) Tryd.underlying31 zc_30 sz_30 ⟨rfl, by decide⟩ by_30 ⟨by simp only [List.length_take, List.length_singleton]; omega, by simp only [List.length_take, List.length_singleton]; omega⟩ ePrt_len ePrt_one (fun _ _ _ _ => GR_nil) (fun A3' c3' I3' hO3' => ?_)
                have ea : p.take (min i (spN p t)) ++ [pt p i] = p.take (i + 1) := (by rw [show min i (spN p t) = i by omega]; exact (take_snoc hil).symm); rw [ea, List.length_take, Nat.min_eq_left (by omega)] at hO3' ⊢
                refine GT_ldv rfl rfl rfl rfl rfl (V_assign rfl rfl) (GR_nil) ?_
                refine GT_nil ?_
                refine GE_exit rfl ?_
                refine GE_slots (L' := [(1, _), (2, _), (9, _), (12, _), (13, _), (14, _)]) ⟨rfl, rfl, rfl, rfl, rfl, rfl, trivial⟩ ?_
                refine GE_plain (.st 0 (.st 1 (.ld 2 [] .nil))) rfl ?_
                refine GT_st rfl rfl rfl rfl (V_move rfl rfl) ?_
                refine GT_st rfl rfl rfl rfl (V_add rfl rfl rfl (wrap_i64 (by omega))) ?_
                refine GT_ldv rfl rfl rfl rfl rfl (V_assign rfl rfl) (GR_nil) ?_
                refine GT_nil ?_
                first
                  | exact GE_to (ih (i + 1, (A3', c3', I3'), (A4, c4, I4)) ⟨by dsimp only; omega, hno2, (by dsimp only; rw [show min (i + 1) (spN p t) = i + 1 by omega]; exact hO3'), (by dsimp only; rw [show i + 1 - spN p t = i - spN p t by omega]; exact hO4)⟩ (by dsimp only; omega)) ⟨rfl, rfl, rfl, lookS rfl (by omega), lookS rfl (by omega), rfl, trivial⟩ (HS.chunk (HS.chunk HS.last))
                  | exact GE_to (ih (i + 1, (A3, c3, I3), (A4', c4', I4')) ⟨by dsimp only; omega, hno2, (by dsimp only; rw [show min (i + 1) (spN p t) = min i (spN p t) by omega]; exact hO3), (by dsimp only; rw [show i + 1 - spN p t = (i - spN p t) + 1 by omega]; exact hO4')⟩ (by dsimp only; omega)) ⟨rfl, rfl, rfl, lookS rfl (by omega), lookS rfl (by omega), rfl, trivial⟩ (HS.chunk (HS.chunk HS.last))
              · have hin : ¬ i < spN p t := (fun e => q6 (hii.1 e)); have hsg := spB_get (p := p) (t := t) (k := i - spN p t) (by omega); have hsl := spB_len p t; rw [show spN p t + (i - spN p t) = i by omega] at hsg
                refine GE_skip ?_
                refine GE_seq ?_
                refine GE_slots (L' := [(1, _), (2, _), (9, _), (12, _), (13, _), (14, _)]) ⟨rfl, rfl, rfl, rfl, rfl, rfl, trivial⟩ ?_
                refine GE_plain (.st 0 (.st 1 (.st 2 (.st 3 (.ld 4 [] (.ld 5 [] .nil)))))) rfl ?_
                refine GT_st rfl rfl rfl rfl (V_move rfl rfl) ?_
                refine GT_st rfl rfl rfl rfl (V_move rfl rfl) ?_
                refine GT_st rfl rfl rfl rfl (V_index rfl rfl rfl Tryd.underlying31 sz_30 (k := i) rfl hil (hp.isSome hil)) ?_
                refine GT_st rfl rfl rfl rfl (V_loadN (vs := [_, _, _, _, _, _, _]) rfl rfl ag_30 sz_30 rfl (show CellsAt _ _ _ (ePrt (pt p i)) from hp.ats noM hil)) ?_
                refine GT_alloc rfl rfl rfl rfl rfl zc_30 (fun _ => GR_nil) (fun b16 => ?_)
                refine GT_store (vs := [_, _, _, _, _, _, _]) (l' := [_, _, _, _, _, _, _]) rfl rfl rfl rfl rfl rfl rfl sz_30 rfl rfl (Nat.le_of_ble_eq_true rfl) rfl (GR_nil) ?_
                refine GT_nil ?_
                refine GE_cut (ι := Prt) (fun u => [(1, .slice A2 p.length c2), (2, I t), (9, .slice y.1 p.length y.2.1), (12, .slice A3 (min i (spN p t)) c3), (13, .slice A4 (i - spN p t) c4), (14, I i), (16, ptr b16 0)]) (fun u => (b16, blk [I u.tk, I u.fr, I u.to, I u.gap, I u.inn, I u.out, I u.lev] 30) :: (y.2.2 ++ (I3 ++ I4))) (fun u => (spB p t).getD (i - spN p t) default = u) ?_ (fun hcut => ?_)
                · rintro u hu
                  refine GE_plain (.st 0 (.st 1 (.ld 2 [] (.ld 3 [] (.ld 4 [] .nil))))) rfl ?_
                  refine GT_st rfl rfl rfl rfl (V_move rfl rfl) ?_
                  refine GT_st rfl rfl rfl rfl (V_loadN (vs := [_, _, _, _, _, _, _]) rfl rfl ag_30 sz_30 rfl (CellsAt.item rfl)) ?_
                  refine GT_buildSlice (z := [_, _, _, _, _, _, _]) rfl rfl rfl rfl rfl Tryd.underlying31 zc_30 sz_30 (by decide) rfl rfl (fun _ => GR_nil) (fun b87 => ?_)
                  refine GT_append (enc := ePrt) (l := (spB p t).take (i - spN p t)) (m := [u]) rfl rfl rfl rfl rfl rfl rfl hO4 (fun w m => RdL.own' m ePrt_len) Tryd.underlying31 zc_30 sz_30 ⟨rfl, by decide⟩ by_30 ⟨by simp only [List.length_take, List.length_singleton]; omega, by simp only [List.length_take, List.length_singleton]; omega⟩ ePrt_len ePrt_one (fun _ _ _ _ => GR_nil) (fun A4' c4' I4' hO4' => ?_)
                  have eb : (spB p t).take (i - spN p t) ++ [u] = (spB p t).take (i - spN p t + 1) := (by rw [← hu]; exact (take_snoc (by omega)).symm); rw [eb, List.length_take, Nat.min_eq_left (by omega)] at hO4' ⊢
                  refine GT_ldv rfl rfl rfl rfl rfl (V_assign rfl rfl) (GR_nil) ?_
                  refine GT_nil ?_
                  refine GE_inBlock ?_
                  refine GE_slots (L' := [(1, _), (2, _), (9, _), (12, _), (13, _), (14, _)]) ⟨rfl, rfl, rfl, rfl, rfl, rfl, trivial⟩ ?_
                  refine GE_plain (.st 0 (.st 1 (.ld 2 [] .nil))) rfl ?_
                  refine GT_st rfl rfl rfl rfl (V_move rfl rfl) ?_
                  refine GT_st rfl rfl rfl rfl (V_add rfl rfl rfl (wrap_i64 (by omega))) ?_
                  refine GT_ldv rfl rfl rfl rfl rfl (V_assign rfl rfl) (GR_nil) ?_
                  refine GT_nil ?_
                  first
                    | exact GE_to (ih (i + 1, (A3', c3', I3'), (A4, c4, I4)) ⟨by dsimp only; omega, hno2, (by dsimp only; rw [show min (i + 1) (spN p t) = i + 1 by omega]; exact hO3'), (by dsimp only; rw [show i + 1 - spN p t = i - spN p t by omega]; exact hO4)⟩ (by dsimp only; omega)) ⟨rfl, rfl, rfl, lookS rfl (by omega), lookS rfl (by omega), rfl, trivial⟩ (HS.chunk (HS.chunk HS.last))
                    | exact GE_to (ih (i + 1, (A3, c3, I3), (A4', c4', I4')) ⟨by dsimp only; omega, hno2, (by dsimp only; rw [show min (i + 1) (spN p t) = min i (spN p t) by omega]; exact hO3), (by dsimp only; rw [show i + 1 - spN p t = (i - spN p t) + 1 by omega]; exact hO4')⟩ (by dsimp only; omega)) ⟨rfl, rfl, rfl, lookS rfl (by omega), lookS rfl (by omega), rfl, trivial⟩ (HS.chunk (HS.chunk HS.last))
                · skip
                  refine GE_seq ?_
                  refine GE_slots (L' := [(1, _), (2, _), (9, _), (12, _), (13, _), (14, _), (16, _)]) ⟨rfl, rfl, rfl, rfl, rfl, rfl, rfl, trivial⟩ ?_
                  refine GE_plain (.st 0 (.st 1 (.st 2 .nil))) rfl ?_
                  refine GT_st rfl rfl rfl rfl (V_move rfl rfl) ?_
                  refine GT_st rfl rfl rfl rfl (V_len rfl Tryd.underlying31 rfl) ?_
                  refine GT_st rfl rfl rfl rfl (V_eql rfl rfl rfl) ?_
                  refine GT_nil ?_
                  first | refine GE_condNot rfl (fun q7 => ?_) (fun q7 => ?_) | refine GE_cond rfl (fun q7 => ?_) (fun q7 => ?_) | refine GE_condNotB rfl (fun q7 => ?_) (fun q7 => ?_) | refine GE_condB rfl (fun q7 => ?_) (fun q7 => ?_)
                  · have h0i : i = spN p t := (by omega); have hsg2 : (spB p t).getD (i - spN p t) default = gapd (pt p i) (bgn p i - t) := (by rw [hsg, if_pos (by omega), ← h0i])
                    refine GE_plain (.st 0 (.st 1 (.st 2 (.st 3 (.st 4 (.st 5 (.st 6 (.ld 7 [] .nil)))))))) rfl ?_
                    refine GT_st rfl rfl rfl rfl (V_move rfl rfl) ?_
                    refine GT_st rfl rfl rfl rfl (V_move rfl rfl) ?_
                    refine GT_st rfl rfl rfl rfl (V_index rfl rfl rfl Tryd.underlying62 sz_3 (k := i) rfl hil (hy.isSome (k := i) (by rw [bgns_len]; exact hil))) ?_
                    refine GT_st rfl rfl rfl rfl (V_load rfl rfl ag_3 (CellAt.own0 (k := i) hy eI_len (by rw [bgns_len]; exact hil) (by rw [bgns_get hil]; rfl))) ?_
                    refine GT_st rfl rfl rfl rfl (V_move rfl rfl) ?_
                    refine GT_st rfl rfl rfl rfl (V_sub rfl rfl rfl (wrap_i64 (by omega))) ?_
                    first | refine GT_st rfl rfl rfl rfl (V_field rfl rfl fo_30_3) ?_ | refine GT_st rfl rfl rfl rfl (V_fieldA rfl rfl fo_30_3) ?_
                    refine GT_store (vs := [_]) (l' := [_, _, _, _, _, _, _]) rfl rfl rfl rfl rfl rfl rfl sz_3 rfl rfl (Nat.le_of_ble_eq_true rfl) rfl (GR_nil) ?_
                    refine GT_nil ?_
                    first
                      | exact GE_to (hcut (gapd (pt p i) (bgn p i - t)) hsg2) ⟨rfl, rfl, rfl, rfl, rfl, rfl, rfl, trivial⟩ (HS.cons rfl HS.last)
                      | exact GE_to (hcut (pt p i) hsg) ⟨rfl, rfl, rfl, rfl, rfl, rfl, rfl, trivial⟩ (HS.cons rfl HS.last)
                  · rw [if_neg (by omega)] at hsg
                    refine GE_skip ?_
                    first
                      | exact GE_to (hcut (gapd (pt p i) (bgn p i - t)) hsg2) ⟨rfl, rfl, rfl, rfl, rfl, rfl, rfl, trivial⟩ (HS.cons rfl HS.last)
                      | exact GE_to (hcut (pt p i) hsg) ⟨rfl, rfl, rfl, rfl, rfl, rfl, rfl, trivial⟩ (HS.cons rfl HS.last)
            · skip
              refine GE_seq ?_
              refine GE_slots (L' := [(1, _), (2, _), (9, _), (12, _), (13, _), (14, _), (15, _)]) ⟨rfl, rfl, rfl, rfl, rfl, rfl, rfl, trivial⟩ ?_
              refine GE_plain (.st 0 (.st 1 (.st 2 (.st 3 (.st 4 (.st 5 (.st 6 (.st 7 (.st 8 (.st 9 (.st 10 .nil))))))))))) rfl ?_
              refine GT_st rfl rfl rfl rfl (V_move rfl rfl) ?_
              refine GT_st rfl rfl rfl rfl (V_move rfl rfl) ?_
              refine GT_st rfl rfl rfl rfl (V_index rfl rfl rfl Tryd.underlying62 sz_3 (k := i) rfl hil (hy.isSome (k := i) (by rw [bgns_len]; exact hil))) ?_
              refine GT_st rfl rfl rfl rfl (V_load rfl rfl ag_3 (CellAt.own0 (k := i) hy eI_len (by rw [bgns_len]; exact hil) (by rw [bgns_get hil]; rfl))) ?_
              refine GT_st rfl rfl rfl rfl (V_move rfl rfl) ?_
              refine GT_st rfl rfl rfl rfl (V_lss rfl rfl rfl) ?_
              refine GT_st rfl rfl rfl rfl (V_move rfl rfl) ?_
              first | refine GT_splitNot (d := 56) rfl (fun q4 => ?_) (fun q4 => ?_) | refine GT_split (d := 56) rfl (fun q4 => ?_) (fun q4 => ?_) | refine GT_splitNotB (d := 56) rfl (fun q4 => ?_) (fun q4 => ?_) | refine GT_splitB (d := 56) rfl (fun q4 => ?_) (fun q4 => ?_)
              · skip
                refine GT_st_g rfl rfl rfl rfl rfl rfl rfl (V_move rfl rfl) ?_
                refine GT_st_g rfl rfl rfl rfl rfl rfl rfl (V_move rfl rfl) ?_
                refine GT_st_g rfl rfl rfl rfl rfl rfl rfl (V_gtr rfl rfl rfl) ?_
                refine GT_st rfl rfl rfl rfl (V_pick_t rfl rfl rfl) ?_
                refine GT_nil ?_
                first | refine GE_condNot rfl (fun q5 => ?_) (fun q5 => ?_) | refine GE_cond rfl (fun q5 => ?_) (fun q5 => ?_) | refine GE_condNotB rfl (fun q5 => ?_) (fun q5 => ?_) | refine GE_condB rfl (fun q5 => ?_) (fun q5 => ?_)
                · skip
                  refine GE_seq ?_
                  refine GE_slots (L' := []) trivial ?_
                  refine GE_plain (.st 0 (.st 1 (.st 2 .nil))) rfl ?_
                  refine GT_st rfl rfl rfl rfl (V_assign rfl rfl) ?_
                  refine GT_st rfl rfl rfl rfl (V_assign rfl rfl) ?_
                  refine GT_st rfl rfl rfl rfl (V_assign rfl rfl) ?_
                  refine GT_nil ?_
                  refine GE_ret Tryd.func31 ⟨_, _, _, rfl, rfl, rfl, rfl⟩ (fun w hw => ?_)
                  exact sp_nil (by rw [spE, if_pos q1, if_neg ht3, if_pos (midB_yes hil (by omega))]) (by decide) hw
                · skip
                  refine GE_skip ?_
                  exact GE_to (hk () (by omega)) ⟨rfl, rfl, rfl, rfl, rfl, rfl, rfl, trivial⟩ HS.all
              · skip
                refine GT_skip rfl rfl rfl rfl rfl (by decide) rfl rfl ?_
                refine GT_skip rfl rfl rfl rfl rfl (by decide) rfl rfl ?_
                refine GT_skip rfl rfl rfl rfl rfl (by decide) rfl rfl ?_
                refine GT_st rfl rfl rfl rfl (V_pick_f rfl rfl rfl) ?_
                refine GT_nil ?_
                refine GE_cond_f rfl ?_
                refine GE_skip ?_
                exact GE_to (hk () (by omega)) ⟨rfl, rfl, rfl, rfl, rfl, rfl, rfl, trivial⟩ HS.all
          · obtain rfl : i = p.length := (by omega); have e0 : spE l p t = 0 := (by rw [spE, if_pos q1, if_neg ht3, if_neg (by rw [midB_no hno]; decide)])
            refine GE_exit rfl ?_
            refine GE_seq ?_
            refine GE_slots (L' := [(12, _), (13, _)]) ⟨rfl, rfl, trivial⟩ ?_
            refine GE_plain (.st 0 (.st 1 (.st 2 (.st 3 (.st 4 .nil))))) rfl ?_
            refine GT_st rfl rfl rfl rfl (V_move rfl rfl) ?_
            refine GT_st rfl rfl rfl rfl (V_move rfl rfl) ?_
            refine GT_st rfl rfl rfl rfl (V_assign rfl rfl) ?_
            refine GT_st rfl rfl rfl rfl (V_assign rfl rfl) ?_
            refine GT_st rfl rfl rfl rfl (V_assign rfl rfl) ?_
            refine GT_nil ?_
            refine GE_ret Tryd.func31 ⟨_, _, _, rfl, rfl, rfl, rfl⟩ (fun w hw => ?_)
            have eF : spF l p t = p.take (spN p t) := (by rw [spF, if_pos e0]); have eS : spS l p t = spB p t := (by rw [spS, if_pos e0]); have lF : (spF l p t).length = spN p t := (by rw [eF, List.length_take]; omega); have lS : (spS l p t).length = p.length - spN p t := (by rw [eS, spB_len]); rw [Nat.min_eq_right (by omega)] at hO3
            rw [List.take_of_length_le (by rw [spB_len]; omega)] at hO4
            refine ⟨((A3, c3, I3), (A4, c4, I4)), ⟨?_, ?_⟩, ?_, hw.hs (C := cx Tryd.prog hm 0 0 _ none' fun _ _ => True) (HS.chunk HS.last)⟩
            · rw [lF, eF]; exact hO3
            · rw [lS, eS]; exact hO4
            · rw [lF, lS, e0, Nat.min_eq_right (show spN p t ≤ p.length by omega)]
        · exact ⟨Nat.zero_le _, (fun i hi => absurd hi (Nat.not_lt_zero _)), (by dsimp only; rw [Nat.zero_min]; exact Own.nil), (by dsimp only; rw [Nat.zero_sub]; exact Own.nil)⟩
theorem C_partsT {B : Option Addr} {n m : Nat} {a b : List Prt} (h : a = b) (hn : a.length ≤ 1000000000000) (ha : RdL w 7 ePrt A a) (hb : RdL w 7 ePrt B b) (h1 : n = a.length) (h2 : m = b.length) : Con0 Tryd.prog 32 [.slice A n c, .slice B m c2] w (.bool true) := by
  subst h1; subst h2
  have := C_parts (c := c) (c2 := c2) hn ha hb
  rw [decide_eq_true h] at this
  exact this
theorem spF_len : (spF l p t).length ≤ p.length := by
  unfold spF; split
  · rw [List.length_take]; omega
  · exact Nat.zero_le _
theorem spS_len : (spS l p t).length ≤ p.length := by
  unfold spS; split
  · rw [spB_len]; omega
  · exact Nat.zero_le _
set_option maxRecDepth 10000 in
theorem L_TakeSplits (h : Tks w A l) (_hl : l.length ≤ c ∧ c ≤ maxLen) (hp : RdL w 7 ePrt A2 p) (hx : p.length ≤ c2 ∧ c2 ≤ maxLen ∧ ∀ x ∈ p, x.wf) (_ht : I64 t) : Con0 Tryd.prog 7 [.slice A l.length c, .slice A2 p.length c2, I t] w (.bool true) := by
  refine Ret_of (vs := [_, _, _]) hm none' Tryd.func7 rfl Tryd.ntmps7 rfl ?_
  dsimp only [slotsOf]
  refine GE_seq ?_
  refine GE_plain (.st 0 .nil) rfl ?_
  refine GT_st rfl rfl rfl rfl (V_assign rfl rfl) ?_
  refine GT_nil ?_
  refine GE_seq ?_
  refine GE_seq ?_
  refine GE_plain (.st 0 (.st 1 (.ld 2 [] .nil))) rfl ?_
  refine GT_st rfl rfl rfl rfl (V_move rfl rfl) ?_
  refine GT_st rfl rfl rfl rfl (V_move rfl rfl) ?_
  refine GT_call0 rfl rfl rfl rfl rfl rfl rfl rfl rn_20 (fun w hw => C_great (h.sh hw)) (GR_nil) ?_
  refine GT_nil ?_
  first | refine GE_condNot rfl (fun q1 => ?_) (fun q1 => ?_) | refine GE_cond rfl (fun q1 => ?_) (fun q1 => ?_) | refine GE_condNotB rfl (fun q1 => ?_) (fun q1 => ?_) | refine GE_condB rfl (fun q1 => ?_) (fun q1 => ?_)
  · skip
    refine GE_seq ?_
    refine GE_slots (L' := []) trivial ?_
    refine GE_plain (.ld 0 [] (.st 1 .nil)) rfl ?_
    refine GT_call0 rfl rfl rfl rfl rfl rfl rfl rfl rn_16 (fun w hw => C_Works) (GR_nil) ?_
    refine GT_st rfl rfl rfl rfl (V_assign rfl rfl) ?_
    refine GT_nil ?_
    refine GE_ret Tryd.func7 rfl (fun w hw => ⟨?_, hw.nil⟩)
    rfl
  · have hgr := greatB_no q1; have h1 := spF_len (l := l) (p := p) (t := t); have h2 := spS_len (l := l) (p := p) (t := t)
    refine GE_skip ?_
    refine GE_seq ?_
    refine GE_slots (L' := [(0, _), (1, _), (2, _)]) ⟨rfl, rfl, rfl, trivial⟩ ?_
    refine GE_plain (.st 0 (.st 1 (.st 2 (.ld 3 [] (.st 4 (.st 5 (.st 6 (.st 7 (.st 8 (.st 9 (.st 10 .nil))))))))))) rfl ?_
    refine GT_st rfl rfl rfl rfl (V_move rfl rfl) ?_
    refine GT_st rfl rfl rfl rfl (V_move rfl rfl) ?_
    refine GT_st rfl rfl rfl rfl (V_move rfl rfl) ?_
    refine GT_call rfl rfl rfl rfl rfl rfl rfl rfl rn_30 (fun w hw => C_Split (h.sh hw) (hp.sh hw) hx.1) (fun _ _ => GR_nil) (fun y hy => ?_)
    refine GT_st rfl rfl rfl rfl (V_move rfl rfl) ?_
    refine GT_st rfl rfl rfl rfl (V_extract rfl rfl rfl) ?_
    refine GT_st rfl rfl rfl rfl (V_extract rfl rfl rfl) ?_
    refine GT_st rfl rfl rfl rfl (V_extract rfl rfl rfl) ?_
    refine GT_st rfl rfl rfl rfl (V_assign rfl rfl) ?_
    refine GT_st rfl rfl rfl rfl (V_assign rfl rfl) ?_
    refine GT_st rfl rfl rfl rfl (V_assign rfl rfl) ?_
    refine GT_nil ?_
    refine GE_seq ?_
    refine GE_slots (L' := [(0, _), (1, _), (2, _), (7, _), (8, _), (9, _)]) ⟨rfl, rfl, rfl, rfl, rfl, rfl, trivial⟩ ?_
    refine GE_plain (.st 0 (.st 1 (.st 2 (.ld 3 [] (.st 4 (.st 5 (.st 6 (.st 7 (.st 8 (.st 9 (.st 10 .nil))))))))))) rfl ?_
    refine GT_st rfl rfl rfl rfl (V_move rfl rfl) ?_
    refine GT_st rfl rfl rfl rfl (V_move rfl rfl) ?_
    refine GT_st rfl rfl rfl rfl (V_move rfl rfl) ?_
    refine GT_call rfl rfl rfl rfl rfl rfl rfl rfl rn_31 (fun w hw => C_rSplit (h.sh hw) (hp.sh hw)) (fun _ _ => GR_nil) (fun z hz => ?_)
    refine GT_st rfl rfl rfl rfl (V_move rfl rfl) ?_
    refine GT_st rfl rfl rfl rfl (V_extract rfl rfl rfl) ?_
    refine GT_st rfl rfl rfl rfl (V_extract rfl rfl rfl) ?_
    refine GT_st rfl rfl rfl rfl (V_extract rfl rfl rfl) ?_
    refine GT_st rfl rfl rfl rfl (V_assign rfl rfl) ?_
    refine GT_st rfl rfl rfl rfl (V_assign rfl rfl) ?_
    refine GT_st rfl rfl rfl rfl (V_assign rfl rfl) ?_
    refine GT_nil ?_
    refine GE_seq ?_
    refine GE_slots (L' := [(7, _), (8, _), (9, _), (10, _), (11, _), (12, _)]) ⟨rfl, rfl, rfl, rfl, rfl, rfl, trivial⟩ ?_
    refine GE_plain (.st 0 (.st 1 (.ld 2 [] (.st 3 (.st 4 (.st 5 (.ld 6 [] (.st 7 (.st 8 (.st 9 (.st 10 (.st 11 (.st 12 (.st 13 (.ld 14 [] (.st 15 (.st 16 .nil))))))))))))))))) rfl ?_
    refine GT_st rfl rfl rfl rfl (V_move rfl rfl) ?_
    refine GT_st rfl rfl rfl rfl (V_move rfl rfl) ?_
    refine GT_call0 rfl rfl rfl rfl rfl rfl rfl rfl rn_32 (fun w hw => C_partsT rfl (by omega) (hy.1.rdH ePrt_len hw) (hz.1.rdH ePrt_len hw) rfl rfl) (GR_nil) ?_
    refine GT_st rfl rfl rfl rfl (V_move rfl rfl) ?_
    refine GT_st_g rfl rfl rfl rfl rfl rfl rfl (V_move rfl rfl) ?_
    refine GT_st_g rfl rfl rfl rfl rfl rfl rfl (V_move rfl rfl) ?_
    refine GT_call0_g rfl rfl rfl rfl rfl rfl rfl rfl rfl rfl rfl rn_32 (fun w hw => C_partsT rfl (by omega) (hy.2.rdH ePrt_len hw) (hz.2.rdH ePrt_len hw) rfl rfl) (GR_nil) ?_
    refine GT_st rfl rfl rfl rfl (V_pick_t rfl rfl rfl) ?_
    refine GT_st rfl rfl rfl rfl (V_move rfl rfl) ?_
    refine GT_st_g rfl rfl rfl rfl rfl rfl rfl (V_move rfl rfl) ?_
    refine GT_st_g rfl rfl rfl rfl rfl rfl rfl (V_move rfl rfl) ?_
    refine GT_st_g rfl rfl rfl rfl rfl rfl rfl (V_isT (V_eql rfl rfl rfl) rfl) ?_
    refine GT_st rfl rfl rfl rfl (V_pick_t rfl rfl rfl) ?_
    refine GT_st rfl rfl rfl rfl (V_move rfl rfl) ?_
    refine GT_call0_g rfl rfl rfl rfl rfl rfl rfl rfl rfl rfl rfl rn_16 (fun w hw => C_Works) (GR_nil) ?_
    refine GT_st rfl rfl rfl rfl (V_pick_t rfl rfl rfl) ?_
    refine GT_st rfl rfl rfl rfl (V_assign rfl rfl) ?_
    refine GT_nil ?_
    refine GE_ret Tryd.func7 rfl (fun w hw => ⟨?_, hw.nil⟩)
    rfl
end
end Go.Proofs.YtnklkobhjdkblaaDoor
