/- LatheLocked, walked. -/
import Derived.Test.YtacmnmcaeflflaaLaD
import Derived.Test.YtacmnmcaeflflaaLaM
namespace Go.Proofs.Ytacmnmcaeflflaa
open Go.Sx Go.Proofs

theorem C_law05_right {b : Blank} {A A2 : Option Addr} {l : List Pt} {r : List Int} {c c2 : Nat} {h x : Int} {w : World} (hp : RdL w 2 ePt A l) (hr : RdL w 1 eI A2 r) (he : cutE b l r = 0) (hh : 1 ≤ h ∧ h ≤ 4096) (hx : -1073741824 ≤ x ∧ x ≤ 1073741824) :
    Con0 Try.prog 26 [b.val, .slice A l.length c, .slice A2 r.length c2, I h, I x] w (.bool (rightB b l r h x)) := by
  obtain ⟨h0, hrl, hall⟩ := cutE_zero.1 he
  obtain ⟨hb, hl, hpt⟩ := both_zero.1 h0
  have hpb := ptB_of hpt
  have hbo := Blank.ok_iff.1 hb
  have hle := le_lockTo (b := b) (l := l) (r := r) (y := x + h)
  refine Ret_of (vs := [_, _, _, _, _]) hm none' Try.func26 rfl Try.ntmps26 rfl ?_
  dsimp only [slotsOf]
  refine GE_seq ?_
  refine GE_plain (.ld 0 [] (.st 1 .nil)) rfl ?_
  refine GT_box (z := [_, _, _, _, _, _]) rfl rfl rfl rfl rfl rfl rfl (fun _ => GR_nil) (fun b5 => ?_)
  refine GT_st rfl rfl rfl rfl (V_assign rfl rfl) ?_
  refine GT_nil ?_
  refine GE_seq ?_
  refine GE_seq ?_
  refine GE_plain (.st 0 (.st 1 (.st 2 (.st 3 (.st 4 (.st 5 (.st 6 (.st 7 (.st 8 (.st 9 (.st 10 (.st 11 .nil)))))))))))) rfl ?_
  refine GT_st rfl rfl rfl rfl (V_move rfl rfl) ?_
  refine GT_st rfl rfl rfl rfl (V_move rfl rfl) ?_
  refine GT_st rfl rfl rfl rfl (V_add rfl rfl rfl (wrap_i64 (by omega))) ?_
  first | refine GT_st rfl rfl rfl rfl (V_field rfl rfl fo_23_1) ?_ | refine GT_st rfl rfl rfl rfl (V_fieldA rfl rfl fo_23_1) ?_
  refine GT_st rfl rfl rfl rfl (V_load rfl rfl ag_2 (CellAt.item rfl)) ?_
  refine GT_st rfl rfl rfl rfl (V_gtr rfl rfl rfl) ?_
  refine GT_st rfl rfl rfl rfl (V_move rfl rfl) ?_
  first | refine GT_splitNot (d := 18) rfl (fun h1 => ?_) (fun h1 => ?_) | refine GT_split (d := 18) rfl (fun h1 => ?_) (fun h1 => ?_) | refine GT_splitNotB (d := 18) rfl (fun h1 => ?_) (fun h1 => ?_) | refine GT_splitB (d := 18) rfl (fun h1 => ?_) (fun h1 => ?_)
  · have hf : rightB b l r h x = false := rightB_false.2 (fun ⟨q1, _⟩ => by have := ((hle _).1 q1).1; omega)
    refine GT_skip rfl rfl rfl rfl rfl (by decide) rfl rfl ?_
    refine GT_skip rfl rfl rfl rfl rfl (by decide) rfl rfl ?_
    refine GT_skip rfl rfl rfl rfl rfl (by decide) rfl rfl ?_
    refine GT_skip rfl rfl rfl rfl rfl (by decide) rfl rfl ?_
    refine GT_st rfl rfl rfl rfl (V_pick_t rfl rfl rfl) ?_
    refine GT_nil ?_
    refine GE_cond_t rfl ?_
    refine GE_seq ?_
    refine GE_slots (L' := []) trivial ?_
    refine GE_plain (.st 0 .nil) rfl ?_
    refine GT_st rfl rfl rfl rfl (V_assign rfl rfl) ?_
    refine GT_nil ?_
    refine GE_ret Try.func26 rfl (fun w hw => ⟨?_, hw.nil⟩)
    rw [hf]
  · skip
    refine GT_st_g rfl rfl rfl rfl rfl rfl rfl (V_move rfl rfl) ?_
    refine GT_st_g rfl rfl rfl rfl rfl rfl rfl (V_move rfl rfl) ?_
    refine GT_st_g rfl rfl rfl rfl rfl rfl rfl (V_sub rfl rfl rfl (wrap_i64 (by omega))) ?_
    refine GT_st_g rfl rfl rfl rfl rfl rfl rfl (V_lss rfl rfl rfl) ?_
    refine GT_st rfl rfl rfl rfl (V_pick_f rfl rfl rfl) ?_
    refine GT_nil ?_
    first | refine GE_condNot rfl (fun h2 => ?_) (fun h2 => ?_) | refine GE_cond rfl (fun h2 => ?_) (fun h2 => ?_) | refine GE_condNotB rfl (fun h2 => ?_) (fun h2 => ?_) | refine GE_condB rfl (fun h2 => ?_) (fun h2 => ?_)
    · have hf : rightB b l r h x = false := rightB_false.2 (fun ⟨_, q2⟩ => by omega)
      refine GE_seq ?_
      refine GE_slots (L' := []) trivial ?_
      refine GE_plain (.st 0 .nil) rfl ?_
      refine GT_st rfl rfl rfl rfl (V_assign rfl rfl) ?_
      refine GT_nil ?_
      refine GE_ret Try.func26 rfl (fun w hw => ⟨?_, hw.nil⟩)
      rw [hf]
    · skip
      refine GE_skip ?_
      refine GE_seq ?_
      refine GE_seq ?_
      refine GE_slots (L' := [(1, _), (2, _), (3, _), (4, _), (5, _)]) ⟨rfl, rfl, rfl, rfl, rfl, trivial⟩ ?_
      refine GE_plain (.st 0 (.st 1 (.st 2 (.st 3 (.st 4 (.st 5 (.st 6 .nil))))))) rfl ?_
      refine GT_st rfl rfl rfl rfl (V_move rfl rfl) ?_
      refine GT_st rfl rfl rfl rfl (V_len rfl Try.underlying24 rfl) ?_
      first | refine GT_st rfl rfl rfl rfl (V_field rfl rfl fo_23_0) ?_ | refine GT_st rfl rfl rfl rfl (V_fieldA rfl rfl fo_23_0) ?_
      refine GT_st rfl rfl rfl rfl (V_load rfl rfl ag_2 (CellAt.item rfl)) ?_
      refine GT_st rfl rfl rfl rfl (V_sub rfl rfl rfl (wrap_i64 (by omega))) ?_
      refine GT_st rfl rfl rfl rfl (V_max rfl rfl rfl) ?_
      refine GT_st rfl rfl rfl rfl (V_assign rfl rfl) ?_
      refine GT_nil ?_
      refine GE_block ?_
      refine GE_to (GE_loop (ι := Nat) (fun k => l.length - k) (fun k => [(1, .slice A l.length c), (2, .slice A2 r.length c2), (3, I h), (4, I x), (5, ptr b5 0), (11, I k)]) (fun k => [(b5, blk b.cells 23)]) (fun k => l.length - b.per.toNat ≤ k ∧ k ≤ l.length ∧ x + h ≤ lockTo b l r k) ?_ (l.length - b.per.toNat) ?_) ⟨rfl, rfl, rfl, rfl, rfl, lookI rfl (by omega), trivial⟩ (HS.cons rfl HS.nil)
      · rintro k ⟨hk1, hk2, hk3⟩ ih
        refine GE_seq ?_
        refine GE_seq ?_
        refine GE_plain (.st 0 (.st 1 (.st 2 (.st 3 .nil)))) rfl ?_
        refine GT_st rfl rfl rfl rfl (V_move rfl rfl) ?_
        refine GT_st rfl rfl rfl rfl (V_move rfl rfl) ?_
        refine GT_st rfl rfl rfl rfl (V_len rfl Try.underlying24 rfl) ?_
        refine GT_st rfl rfl rfl rfl (V_lss rfl rfl rfl) ?_
        refine GT_nil ?_
        first | refine GE_condNot rfl (fun h3 => ?_) (fun h3 => ?_) | refine GE_cond rfl (fun h3 => ?_) (fun h3 => ?_) | refine GE_condNotB rfl (fun h3 => ?_) (fun h3 => ?_) | refine GE_condB rfl (fun h3 => ?_) (fun h3 => ?_)
        · have hkl : k < l.length := (by omega); have hp1 := hpb k hkl; have hr1 := rOk_at hall (q := k) (by omega)
          refine GE_skip ?_
          refine GE_seq ?_
          refine GE_block ?_
          refine GE_seq ?_
          refine GE_slots (L' := [(1, _), (2, _), (3, _), (4, _), (5, _), (11, _)]) ⟨rfl, rfl, rfl, rfl, rfl, rfl, trivial⟩ ?_
          refine GE_drawn (.st 0 (.st 1 (.st 2 (.st 3 (.st 4 (.st 5 (.st 6 (.st 7 (.st 8 (.st 9 (.st 10 (.st 11 (.st 12 (.st 13 (.st 14 (.st 15 (.st 16 .nil))))))))))))))))) [] (by decide +kernel) ?_
          refine GT_st rfl rfl rfl rfl (V_move rfl rfl) ?_
          refine GT_st rfl rfl rfl rfl (V_move rfl rfl) ?_
          refine GT_st rfl rfl rfl rfl (V_add rfl rfl rfl (wrap_i64 (by omega))) ?_
          refine GT_st rfl rfl rfl rfl (V_move rfl rfl) ?_
          refine GT_st rfl rfl rfl rfl (V_move rfl rfl) ?_
          refine GT_st rfl rfl rfl rfl (V_index rfl rfl rfl Try.underlying25 sz_2 (k := k) rfl (by omega) (hr.isSome (k := k) (by omega))) ?_
          refine GT_st rfl rfl rfl rfl (V_load rfl rfl ag_2 (hr.at0 noM (by omega) rfl)) ?_
          refine GT_st rfl rfl rfl rfl (V_move rfl rfl) ?_
          refine GT_st rfl rfl rfl rfl (V_move rfl rfl) ?_
          refine GT_st rfl rfl rfl rfl (V_index rfl rfl rfl Try.underlying24 sz_39 (k := k) rfl hkl (hp.isSome hkl)) ?_
          first | refine GT_st rfl rfl rfl rfl (V_field rfl rfl fo_39_0) ?_ | refine GT_st rfl rfl rfl rfl (V_fieldA rfl rfl fo_39_0) ?_
          refine GT_st rfl rfl rfl rfl (V_load rfl rfl ag_2 (hp.at0 noM hkl rfl)) ?_
          refine GT_st rfl rfl rfl rfl (V_add rfl rfl rfl (wrap_i64 (by omega))) ?_
          first | refine GT_st rfl rfl rfl rfl (V_field rfl rfl fo_23_3) ?_ | refine GT_st rfl rfl rfl rfl (V_fieldA rfl rfl fo_23_3) ?_
          refine GT_st rfl rfl rfl rfl (V_load rfl rfl ag_2 (CellAt.item rfl)) ?_
          refine GT_st rfl rfl rfl rfl (V_sub rfl rfl rfl (wrap_i64 (by omega))) ?_
          refine GT_st rfl rfl rfl rfl (V_gtr rfl rfl rfl) ?_
          refine GT_nil ?_
          first | refine GE_condNot rfl (fun h4 => ?_) (fun h4 => ?_) | refine GE_cond rfl (fun h4 => ?_) (fun h4 => ?_) | refine GE_condNotB rfl (fun h4 => ?_) (fun h4 => ?_) | refine GE_condB rfl (fun h4 => ?_) (fun h4 => ?_)
          · have hf : rightB b l r h x = false := rightB_false.2 (fun ⟨q1, _⟩ => by have := ((hle _).1 q1).2 k hkl hk1; omega)
            refine GE_seq ?_
            refine GE_slots (L' := []) trivial ?_
            refine GE_plain (.st 0 .nil) rfl ?_
            refine GT_st rfl rfl rfl rfl (V_assign rfl rfl) ?_
            refine GT_nil ?_
            refine GE_ret Try.func26 rfl (fun w hw => ⟨?_, hw.nil⟩)
            rw [hf]
          · skip
            refine GE_skip ?_
            refine GE_inBlock ?_
            refine GE_slots (L' := [(1, _), (2, _), (3, _), (4, _), (5, _), (11, _)]) ⟨rfl, rfl, rfl, rfl, rfl, rfl, trivial⟩ ?_
            refine GE_plain (.st 0 (.st 1 (.ld 2 [] .nil))) rfl ?_
            refine GT_st rfl rfl rfl rfl (V_move rfl rfl) ?_
            refine GT_st rfl rfl rfl rfl (V_add rfl rfl rfl (wrap_i64 (by omega))) ?_
            refine GT_ldv rfl rfl rfl rfl rfl (V_assign rfl rfl) (GR_nil) ?_
            refine GT_nil ?_
            exact GE_to (ih (k + 1) ⟨by omega, by omega, by rw [lockTo, if_pos hk1]; omega⟩ (by omega)) ⟨rfl, rfl, rfl, rfl, rfl, rfl, trivial⟩ (HS.cons rfl HS.nil)
        · obtain rfl : k = l.length := (by omega); have hf : rightB b l r h x = true := rightB_iff.2 ⟨hk3, by omega⟩
          refine GE_exit rfl ?_
          refine GE_seq ?_
          refine GE_slots (L' := []) trivial ?_
          refine GE_plain (.st 0 .nil) rfl ?_
          refine GT_st rfl rfl rfl rfl (V_assign rfl rfl) ?_
          refine GT_nil ?_
          refine GE_ret Try.func26 rfl (fun w hw => ⟨?_, hw.nil⟩)
          rw [hf]
      · exact ⟨Nat.le_refl _, by omega, by rw [lockTo_rim (Nat.le_refl _)]; omega⟩

theorem L_LatheLocked {b : Blank} {A A2 : Option Addr} {l : List Pt} {r : List Int} {c c2 : Nat} {h x : Int} {w : World} (hp : RdL w 2 ePt A l) (_ : l.length ≤ c ∧ c ≤ maxLen ∧ ∀ x ∈ l, PtWf x) (hr : RdL w 1 eI A2 r) (_ : r.length ≤ c2 ∧ c2 ≤ maxLen ∧ ∀ x ∈ r, I64 x) (_ : (Lit.int .i64 h).wf = true) (_ : (Lit.int .i64 x).wf = true) :
    Con0 Try.prog 7 [b.val, .slice A l.length c, .slice A2 r.length c2, I h, I x] w (.bool true) := by
  have hz := lock_zero (b := b) (l := l) (r := r) (h := h)
  have hfa := lock_facts (b := b) (l := l) (r := r) (h := h)
  have hrl : (lockRes b l r h).2 = 0 ∨ (lockRes b l r h).2 = 15 → r.length = l.length := fun q => (cutE_zero.1 (hfa q).1).2.1
  have hbd : (lockRes b l r h).2 = 0 ∨ (lockRes b l r h).2 = 15 → -67108864 ≤ lockTo b l r l.length ∧ lockTo b l r l.length ≤ 67108864 := fun q => by
    obtain ⟨h0, hrl, hall⟩ := cutE_zero.1 (hfa q).1
    obtain ⟨hb, hl, hpt⟩ := both_zero.1 h0
    exact lockTo_bd hb (ptB_of hpt) hrl hall (Nat.le_refl _)
  have key : (lockRes b l r h).2 = 0 ∨ (lockRes b l r h).2 = 15 → rightB b l r h x = true → (lockRes b l r h).2 = 0 ∧ x ≤ (lockRes b l r h).1 := fun q hx => by
    obtain ⟨_, _, _, hv⟩ := hfa q
    obtain ⟨h1, h2⟩ := rightB_iff.1 hx
    rcases hv with ⟨e1, e2⟩ | ⟨e1, e2⟩
    · rw [e1]; exact ⟨rfl, by dsimp only; omega⟩
    · omega
  have hv0 : (lockRes b l r h).2 = 0 → (lockRes b l r h).1 = lockTo b l r l.length - h ∧ rightB b l r h (lockRes b l r h).1 = true ∧ rightB b l r h ((lockRes b l r h).1 + 1) = false := fun q => by
    obtain ⟨_, _, _, hv⟩ := hfa (.inl q)
    rcases hv with ⟨e1, e2⟩ | ⟨e1, _⟩
    · rw [e1]; exact ⟨rfl, rightB_iff.2 ⟨by dsimp only; omega, by dsimp only; omega⟩, rightB_false.2 (fun ⟨q1, _⟩ => by dsimp only at q1; omega)⟩
    · rw [e1] at q; cases q
  refine Ret_of (vs := [_, _, _, _, _]) hm none' Try.func7 rfl Try.ntmps7 rfl ?_
  dsimp only [slotsOf]
  refine GE_seq ?_
  refine GE_plain (.ld 0 [] (.st 1 .nil)) rfl ?_
  refine GT_box (z := [_, _, _, _, _, _]) rfl rfl rfl rfl rfl rfl rfl (fun _ => GR_nil) (fun b5 => ?_)
  refine GT_st rfl rfl rfl rfl (V_assign rfl rfl) ?_
  refine GT_nil ?_
  refine GE_seq ?_
  refine GE_seq ?_
  refine GE_plain (.st 0 (.st 1 (.ld 2 [] (.st 3 (.st 4 (.st 5 (.st 6 (.st 7 (.st 8 .nil))))))))) rfl ?_
  refine GT_st rfl rfl rfl rfl (V_loadN (vs := [_, _, _, _, _, _]) rfl rfl ag_23 sz_23 rfl (CellsAt.item rfl)) ?_
  refine GT_st rfl rfl rfl rfl (V_move rfl rfl) ?_
  refine GT_call0 rfl rfl rfl rfl rfl rfl rfl rfl rn_24 (fun w hw => C_law05_valid (hp.sh hw)) (GR_nil) ?_
  first | refine GT_st rfl rfl rfl rfl (V_not rfl rfl) ?_ | refine GT_st rfl rfl rfl rfl (V_notB rfl rfl) ?_
  refine GT_st rfl rfl rfl rfl (V_move rfl rfl) ?_
  first | refine GT_splitNot (d := 17) rfl (fun h1 => ?_) (fun h1 => ?_) | refine GT_split (d := 17) rfl (fun h1 => ?_) (fun h1 => ?_) | refine GT_splitNotB (d := 17) rfl (fun h1 => ?_) (fun h1 => ?_) | refine GT_splitB (d := 17) rfl (fun h1 => ?_) (fun h1 => ?_)
  · skip
    refine GT_skip rfl rfl rfl rfl rfl (by decide) rfl rfl ?_
    refine GT_skip rfl rfl rfl rfl rfl (by decide) rfl rfl ?_
    refine GT_skip rfl rfl rfl rfl rfl (by decide) rfl rfl ?_
    refine GT_st rfl rfl rfl rfl (V_pick_t rfl rfl rfl) ?_
    refine GT_nil ?_
    refine GE_cond_t rfl ?_
    refine GE_seq ?_
    refine GE_slots (L' := []) trivial ?_
    refine GE_plain (.ld 0 [] (.st 1 .nil)) rfl ?_
    refine GT_call0 rfl rfl rfl rfl rfl rfl rfl rfl rn_16 (fun w hw => C_law05_Works) (GR_nil) ?_
    refine GT_st rfl rfl rfl rfl (V_assign rfl rfl) ?_
    refine GT_nil ?_
    refine GE_ret Try.func7 rfl (fun w hw => ⟨?_, hw.nil⟩)
    rfl
  · obtain ⟨hl, he⟩ := of_valid h1
    refine GT_st_g rfl rfl rfl rfl rfl rfl rfl (V_move rfl rfl) ?_
    refine GT_st_g rfl rfl rfl rfl rfl rfl rfl (V_len rfl Try.underlying25 rfl) ?_
    refine GT_st_g rfl rfl rfl rfl rfl rfl rfl (V_gtr rfl rfl rfl) ?_
    refine GT_st rfl rfl rfl rfl (V_pick_f rfl rfl rfl) ?_
    refine GT_nil ?_
    first | refine GE_condNot rfl (fun h2 => ?_) (fun h2 => ?_) | refine GE_cond rfl (fun h2 => ?_) (fun h2 => ?_) | refine GE_condNotB rfl (fun h2 => ?_) (fun h2 => ?_) | refine GE_condB rfl (fun h2 => ?_) (fun h2 => ?_)
    · skip
      refine GE_seq ?_
      refine GE_slots (L' := []) trivial ?_
      refine GE_plain (.ld 0 [] (.st 1 .nil)) rfl ?_
      refine GT_call0 rfl rfl rfl rfl rfl rfl rfl rfl rn_16 (fun w hw => C_law05_Works) (GR_nil) ?_
      refine GT_st rfl rfl rfl rfl (V_assign rfl rfl) ?_
      refine GT_nil ?_
      refine GE_ret Try.func7 rfl (fun w hw => ⟨?_, hw.nil⟩)
      rfl
    · have hlr : r.length ≤ 100 := (by omega)
      refine GE_skip ?_
      refine GE_seq ?_
      refine GE_slots (L' := [(1, _), (2, _), (3, _), (4, _), (5, _)]) ⟨rfl, rfl, rfl, rfl, rfl, trivial⟩ ?_
      refine GE_plain (.st 0 (.st 1 (.st 2 (.st 3 (.ld 4 [] (.st 5 (.st 6 (.st 7 (.st 8 (.st 9 .nil)))))))))) rfl ?_
      refine GT_st rfl rfl rfl rfl (V_loadN (vs := [_, _, _, _, _, _]) rfl rfl ag_23 sz_23 rfl (CellsAt.item rfl)) ?_
      refine GT_st rfl rfl rfl rfl (V_move rfl rfl) ?_
      refine GT_st rfl rfl rfl rfl (V_move rfl rfl) ?_
      refine GT_st rfl rfl rfl rfl (V_move rfl rfl) ?_
      refine GT_call0 rfl rfl rfl rfl rfl rfl rfl rfl rn_25 (fun w hw => C_lathe_Locked (hp.sh hw) (hr.sh hw) (by omega)) (GR_nil) ?_
      refine GT_st rfl rfl rfl rfl (V_move rfl rfl) ?_
      refine GT_st rfl rfl rfl rfl (V_extract rfl rfl rfl) ?_
      refine GT_st rfl rfl rfl rfl (V_extract rfl rfl rfl) ?_
      refine GT_st rfl rfl rfl rfl (V_assign rfl rfl) ?_
      refine GT_st rfl rfl rfl rfl (V_assign rfl rfl) ?_
      refine GT_nil ?_
      refine GE_seq ?_
      refine GE_seq ?_
      refine GE_slots (L' := [(1, _), (2, _), (3, _), (4, _), (5, _), (11, _), (12, _)]) ⟨rfl, rfl, rfl, rfl, rfl, rfl, rfl, trivial⟩ ?_
      refine GE_plain (.st 0 (.st 1 (.st 2 (.st 3 (.st 4 (.st 5 .nil)))))) rfl ?_
      refine GT_st rfl rfl rfl rfl (V_move rfl rfl) ?_
      refine GT_st rfl rfl rfl rfl (V_neq rfl rfl rfl) ?_
      refine GT_st rfl rfl rfl rfl (V_move rfl rfl) ?_
      first | refine GT_splitNot (d := 33) rfl (fun h3 => ?_) (fun h3 => ?_) | refine GT_split (d := 33) rfl (fun h3 => ?_) (fun h3 => ?_) | refine GT_splitNotB (d := 33) rfl (fun h3 => ?_) (fun h3 => ?_) | refine GT_splitB (d := 33) rfl (fun h3 => ?_) (fun h3 => ?_)
      · skip
        refine GT_st_g rfl rfl rfl rfl rfl rfl rfl (V_move rfl rfl) ?_
        refine GT_st_g rfl rfl rfl rfl rfl rfl rfl (V_neq rfl rfl rfl) ?_
        refine GT_st rfl rfl rfl rfl (V_pick_t rfl rfl rfl) ?_
        refine GT_nil ?_
        first | refine GE_condNot rfl (fun h4 => ?_) (fun h4 => ?_) | refine GE_cond rfl (fun h4 => ?_) (fun h4 => ?_) | refine GE_condNotB rfl (fun h4 => ?_) (fun h4 => ?_) | refine GE_condB rfl (fun h4 => ?_) (fun h4 => ?_)
        · skip
          refine GE_seq ?_
          refine GE_slots (L' := [(11, _)]) ⟨rfl, trivial⟩ ?_
          refine GE_plain (.st 0 (.st 1 (.st 2 (.ld 3 [] (.st 4 (.st 5 .nil)))))) rfl ?_
          refine GT_st rfl rfl rfl rfl (V_move rfl rfl) ?_
          refine GT_st rfl rfl rfl rfl (V_isT (V_eql rfl rfl rfl) (hz h3)) ?_
          refine GT_st rfl rfl rfl rfl (V_move rfl rfl) ?_
          refine GT_call0_g rfl rfl rfl rfl rfl rfl rfl rfl rfl rfl rfl rn_16 (fun w hw => C_law05_Works) (GR_nil) ?_
          refine GT_st rfl rfl rfl rfl (V_pick_t rfl rfl rfl) ?_
          refine GT_st rfl rfl rfl rfl (V_assign rfl rfl) ?_
          refine GT_nil ?_
          refine GE_ret Try.func7 rfl (fun w hw => ⟨?_, hw.nil⟩)
          rfl
        · have hq : (lockRes b l r h).2 = 0 ∨ (lockRes b l r h).2 = 15 := (by omega)
          refine GE_skip ?_
          refine GE_seq ?_
          refine GE_seq ?_
          refine GE_slots (L' := [(1, _), (2, _), (3, _), (4, _), (5, _), (11, _), (12, _)]) ⟨rfl, rfl, rfl, rfl, rfl, rfl, rfl, trivial⟩ ?_
          refine GE_plain (.st 0 (.st 1 (.st 2 (.st 3 (.st 4 (.st 5 (.st 6 (.st 7 (.st 8 (.st 9 (.st 10 (.st 11 (.st 12 (.st 13 (.st 14 (.st 15 (.st 16 (.st 17 .nil)))))))))))))))))) rfl ?_
          refine GT_st rfl rfl rfl rfl (V_move rfl rfl) ?_
          refine GT_st rfl rfl rfl rfl (V_len rfl Try.underlying25 rfl) ?_
          refine GT_st rfl rfl rfl rfl (V_move rfl rfl) ?_
          refine GT_st rfl rfl rfl rfl (V_len rfl Try.underlying24 rfl) ?_
          refine GT_st rfl rfl rfl rfl (V_isF (V_neq rfl rfl rfl) (fun q => q (by rw [hrl hq]))) ?_
          refine GT_st rfl rfl rfl rfl (V_move rfl rfl) ?_
          refine GT_st_g rfl rfl rfl rfl rfl rfl rfl (V_move rfl rfl) ?_
          refine GT_st_g rfl rfl rfl rfl rfl rfl rfl (V_len rfl Try.underlying24 rfl) ?_
          refine GT_st_g rfl rfl rfl rfl rfl rfl rfl (V_isF (V_eql rfl rfl rfl) (fun q => (hfa hq).2.2.1 (by omega))) ?_
          refine GT_st rfl rfl rfl rfl (V_pick_f rfl rfl rfl) ?_
          refine GT_st rfl rfl rfl rfl (V_move rfl rfl) ?_
          refine GT_st_g rfl rfl rfl rfl rfl rfl rfl (V_move rfl rfl) ?_
          refine GT_st_g rfl rfl rfl rfl rfl rfl rfl (V_isF (V_lss rfl rfl rfl) (by have := (hfa hq).2.1; omega)) ?_
          refine GT_st rfl rfl rfl rfl (V_pick_f rfl rfl rfl) ?_
          refine GT_st rfl rfl rfl rfl (V_move rfl rfl) ?_
          refine GT_st_g rfl rfl rfl rfl rfl rfl rfl (V_move rfl rfl) ?_
          refine GT_st_g rfl rfl rfl rfl rfl rfl rfl (V_isF (V_gtr rfl rfl rfl) (by have := (hfa hq).2.1; omega)) ?_
          refine GT_st rfl rfl rfl rfl (V_pick_f rfl rfl rfl) ?_
          refine GT_nil ?_
          refine GE_cond_f rfl ?_
          refine GE_skip ?_
          refine GE_seq ?_
          refine GE_seq ?_
          refine GE_slots (L' := [(1, _), (2, _), (3, _), (4, _), (5, _), (11, _), (12, _)]) ⟨rfl, rfl, rfl, rfl, rfl, rfl, rfl, trivial⟩ ?_
          refine GE_plain (.st 0 (.st 1 (.st 2 (.st 3 (.st 4 (.st 5 (.st 6 (.st 7 (.ld 8 [] (.st 9 (.st 10 (.st 11 (.st 12 (.st 13 (.st 14 (.st 15 (.st 16 (.ld 17 [] (.st 18 (.st 19 .nil)))))))))))))))))))) rfl ?_
          refine GT_st rfl rfl rfl rfl (V_move rfl rfl) ?_
          refine GT_st rfl rfl rfl rfl (V_eql rfl rfl rfl) ?_
          refine GT_st rfl rfl rfl rfl (V_move rfl rfl) ?_
          first | refine GT_splitNot (d := 62) rfl (fun h5 => ?_) (fun h5 => ?_) | refine GT_split (d := 62) rfl (fun h5 => ?_) (fun h5 => ?_) | refine GT_splitNotB (d := 62) rfl (fun h5 => ?_) (fun h5 => ?_) | refine GT_splitB (d := 62) rfl (fun h5 => ?_) (fun h5 => ?_)
          · obtain ⟨ev, hv1, hv2⟩ := hv0 h5; have hbd1 := hbd hq; have hh := (hfa hq).2.1
            refine GT_st_g rfl rfl rfl rfl rfl rfl rfl (V_loadN (vs := [_, _, _, _, _, _]) rfl rfl ag_23 sz_23 rfl (CellsAt.item rfl)) ?_
            refine GT_st_g rfl rfl rfl rfl rfl rfl rfl (V_move rfl rfl) ?_
            refine GT_st_g rfl rfl rfl rfl rfl rfl rfl (V_move rfl rfl) ?_
            refine GT_st_g rfl rfl rfl rfl rfl rfl rfl (V_move rfl rfl) ?_
            refine GT_st_g rfl rfl rfl rfl rfl rfl rfl (V_move rfl rfl) ?_
            refine GT_call0_g rfl rfl rfl rfl rfl rfl rfl rfl rfl rfl rfl rn_26 (fun w hw => (by have := C_law05_right (c := c) (c2 := c2) (h := h) (x := (lockRes b l r h).1) (hp.sh hw) (hr.sh hw) (hfa hq).1 (hfa hq).2.1 (by omega); rw [hv1] at this; exact this)) (GR_nil) ?_
            first | refine GT_st_g rfl rfl rfl rfl rfl rfl rfl (V_not rfl rfl) ?_ | refine GT_st_g rfl rfl rfl rfl rfl rfl rfl (V_notB rfl rfl) ?_
            refine GT_st_g rfl rfl rfl rfl rfl rfl rfl (V_move rfl rfl) ?_
            refine GT_st_g rfl rfl rfl rfl rfl rfl rfl (V_loadN (vs := [_, _, _, _, _, _]) rfl rfl ag_23 sz_23 rfl (CellsAt.item rfl)) ?_
            refine GT_st_g rfl rfl rfl rfl rfl rfl rfl (V_move rfl rfl) ?_
            refine GT_st_g rfl rfl rfl rfl rfl rfl rfl (V_move rfl rfl) ?_
            refine GT_st_g rfl rfl rfl rfl rfl rfl rfl (V_move rfl rfl) ?_
            refine GT_st_g rfl rfl rfl rfl rfl rfl rfl (V_move rfl rfl) ?_
            refine GT_st_g rfl rfl rfl rfl rfl rfl rfl (V_add rfl rfl rfl (wrap_i64 (by omega))) ?_
            refine GT_call0_g rfl rfl rfl rfl rfl rfl rfl rfl rfl rfl rfl rn_26 (fun w hw => (by have := C_law05_right (c := c) (c2 := c2) (h := h) (x := (lockRes b l r h).1 + 1) (hp.sh hw) (hr.sh hw) (hfa hq).1 (hfa hq).2.1 (by omega); rw [hv2] at this; exact this)) (GR_nil) ?_
            refine GT_st_g rfl rfl rfl rfl rfl rfl rfl (V_pick_f rfl rfl rfl) ?_
            refine GT_st rfl rfl rfl rfl (V_pick_t rfl rfl rfl) ?_
            refine GT_nil ?_
            refine GE_cond_f rfl ?_
            refine GE_skip ?_
            refine GE_seq ?_
            refine GE_slots (L' := [(1, _), (2, _), (3, _), (4, _), (5, _), (11, _), (12, _)]) ⟨rfl, rfl, rfl, rfl, rfl, rfl, rfl, trivial⟩ ?_
            refine GE_plain (.st 0 (.st 1 (.st 2 (.st 3 (.st 4 (.st 5 (.st 6 (.st 7 (.st 8 (.st 9 (.st 10 (.st 11 (.ld 12 [] (.st 13 (.st 14 (.st 15 (.st 16 (.st 17 (.st 18 (.st 19 (.st 20 (.st 21 (.st 22 (.st 23 (.st 24 (.ld 25 [] (.st 26 (.st 27 .nil)))))))))))))))))))))))))))) rfl ?_
            refine GT_st rfl rfl rfl rfl (V_move rfl rfl) ?_
            refine GT_st rfl rfl rfl rfl (V_lss rfl rfl rfl) ?_
            refine GT_st rfl rfl rfl rfl (V_move rfl rfl) ?_
            first | refine GT_splitNot (d := 82) rfl (fun h6 => ?_) (fun h6 => ?_) | refine GT_split (d := 82) rfl (fun h6 => ?_) (fun h6 => ?_) | refine GT_splitNotB (d := 82) rfl (fun h6 => ?_) (fun h6 => ?_) | refine GT_splitB (d := 82) rfl (fun h6 => ?_) (fun h6 => ?_)
            · skip
              refine GT_skip rfl rfl rfl rfl rfl (by decide) rfl rfl ?_
              refine GT_skip rfl rfl rfl rfl rfl (by decide) rfl rfl ?_
              refine GT_st rfl rfl rfl rfl (V_pick_t rfl rfl rfl) ?_
              refine GT_st rfl rfl rfl rfl (V_move rfl rfl) ?_
              refine GT_skip rfl rfl rfl rfl rfl (by decide) rfl rfl ?_
              refine GT_skip rfl rfl rfl rfl rfl (by decide) rfl rfl ?_
              refine GT_skip rfl rfl rfl rfl rfl (by decide) rfl rfl ?_
              refine GT_skip rfl rfl rfl rfl rfl (by decide) rfl rfl ?_
              refine GT_skip rfl rfl rfl rfl rfl (by decide) rfl rfl ?_
              refine GT_skip_ld rfl rfl rfl rfl rfl (by decide) rfl rfl rfl (GR_nil) ?_
              refine GT_skip rfl rfl rfl rfl rfl (by decide) rfl rfl ?_
              refine GT_st rfl rfl rfl rfl (V_pick_t rfl rfl rfl) ?_
              refine GT_st rfl rfl rfl rfl (V_move rfl rfl) ?_
              refine GT_skip rfl rfl rfl rfl rfl (by decide) rfl rfl ?_
              refine GT_skip rfl rfl rfl rfl rfl (by decide) rfl rfl ?_
              refine GT_skip rfl rfl rfl rfl rfl (by decide) rfl rfl ?_
              refine GT_skip rfl rfl rfl rfl rfl (by decide) rfl rfl ?_
              refine GT_skip rfl rfl rfl rfl rfl (by decide) rfl rfl ?_
              refine GT_skip rfl rfl rfl rfl rfl (by decide) rfl rfl ?_
              refine GT_skip rfl rfl rfl rfl rfl (by decide) rfl rfl ?_
              refine GT_st rfl rfl rfl rfl (V_pick_t rfl rfl rfl) ?_
              refine GT_st rfl rfl rfl rfl (V_move rfl rfl) ?_
              refine GT_call0_g rfl rfl rfl rfl rfl rfl rfl rfl rfl rfl rfl rn_16 (fun w hw => C_law05_Works) (GR_nil) ?_
              refine GT_st rfl rfl rfl rfl (V_pick_t rfl rfl rfl) ?_
              refine GT_st rfl rfl rfl rfl (V_assign rfl rfl) ?_
              refine GT_nil ?_
              refine GE_ret Try.func7 rfl (fun w hw => ⟨?_, hw.nil⟩)
              rfl
            · skip
              refine GT_st_g rfl rfl rfl rfl rfl rfl rfl (V_move rfl rfl) ?_
              refine GT_st_g rfl rfl rfl rfl rfl rfl rfl (V_gtr rfl rfl rfl) ?_
              refine GT_st rfl rfl rfl rfl (V_pick_f rfl rfl rfl) ?_
              refine GT_st rfl rfl rfl rfl (V_move rfl rfl) ?_
              first | refine GT_splitNot (d := 86) rfl (fun h7 => ?_) (fun h7 => ?_) | refine GT_split (d := 86) rfl (fun h7 => ?_) (fun h7 => ?_) | refine GT_splitNotB (d := 86) rfl (fun h7 => ?_) (fun h7 => ?_) | refine GT_splitB (d := 86) rfl (fun h7 => ?_) (fun h7 => ?_)
              · skip
                refine GT_skip rfl rfl rfl rfl rfl (by decide) rfl rfl ?_
                refine GT_skip rfl rfl rfl rfl rfl (by decide) rfl rfl ?_
                refine GT_skip rfl rfl rfl rfl rfl (by decide) rfl rfl ?_
                refine GT_skip rfl rfl rfl rfl rfl (by decide) rfl rfl ?_
                refine GT_skip rfl rfl rfl rfl rfl (by decide) rfl rfl ?_
                refine GT_skip_ld rfl rfl rfl rfl rfl (by decide) rfl rfl rfl (GR_nil) ?_
                refine GT_skip rfl rfl rfl rfl rfl (by decide) rfl rfl ?_
                refine GT_st rfl rfl rfl rfl (V_pick_t rfl rfl rfl) ?_
                refine GT_st rfl rfl rfl rfl (V_move rfl rfl) ?_
                refine GT_skip rfl rfl rfl rfl rfl (by decide) rfl rfl ?_
                refine GT_skip rfl rfl rfl rfl rfl (by decide) rfl rfl ?_
                refine GT_skip rfl rfl rfl rfl rfl (by decide) rfl rfl ?_
                refine GT_skip rfl rfl rfl rfl rfl (by decide) rfl rfl ?_
                refine GT_skip rfl rfl rfl rfl rfl (by decide) rfl rfl ?_
                refine GT_skip rfl rfl rfl rfl rfl (by decide) rfl rfl ?_
                refine GT_skip rfl rfl rfl rfl rfl (by decide) rfl rfl ?_
                refine GT_st rfl rfl rfl rfl (V_pick_t rfl rfl rfl) ?_
                refine GT_st rfl rfl rfl rfl (V_move rfl rfl) ?_
                refine GT_call0_g rfl rfl rfl rfl rfl rfl rfl rfl rfl rfl rfl rn_16 (fun w hw => C_law05_Works) (GR_nil) ?_
                refine GT_st rfl rfl rfl rfl (V_pick_t rfl rfl rfl) ?_
                refine GT_st rfl rfl rfl rfl (V_assign rfl rfl) ?_
                refine GT_nil ?_
                refine GE_ret Try.func7 rfl (fun w hw => ⟨?_, hw.nil⟩)
                rfl
              · skip
                refine GT_st_g rfl rfl rfl rfl rfl rfl rfl (V_loadN (vs := [_, _, _, _, _, _]) rfl rfl ag_23 sz_23 rfl (CellsAt.item rfl)) ?_
                refine GT_st_g rfl rfl rfl rfl rfl rfl rfl (V_move rfl rfl) ?_
                refine GT_st_g rfl rfl rfl rfl rfl rfl rfl (V_move rfl rfl) ?_
                refine GT_st_g rfl rfl rfl rfl rfl rfl rfl (V_move rfl rfl) ?_
                refine GT_st_g rfl rfl rfl rfl rfl rfl rfl (V_move rfl rfl) ?_
                refine GT_call0_g rfl rfl rfl rfl rfl rfl rfl rfl rfl rfl rfl rn_26 (fun w hw => C_law05_right (hp.sh hw) (hr.sh hw) (hfa hq).1 (hfa hq).2.1 (by omega)) (GR_nil) ?_
                first | refine GT_st_g rfl rfl rfl rfl rfl rfl rfl (V_not rfl rfl) ?_ | refine GT_st_g rfl rfl rfl rfl rfl rfl rfl (V_notB rfl rfl) ?_
                refine GT_st rfl rfl rfl rfl (V_pick_f rfl rfl rfl) ?_
                refine GT_st rfl rfl rfl rfl (V_move rfl rfl) ?_
                first | refine GT_splitNot (d := 95) rfl (fun h8 => ?_) (fun h8 => ?_) | refine GT_split (d := 95) rfl (fun h8 => ?_) (fun h8 => ?_) | refine GT_splitNotB (d := 95) rfl (fun h8 => ?_) (fun h8 => ?_) | refine GT_splitB (d := 95) rfl (fun h8 => ?_) (fun h8 => ?_)
                · skip
                  refine GT_skip rfl rfl rfl rfl rfl (by decide) rfl rfl ?_
                  refine GT_skip rfl rfl rfl rfl rfl (by decide) rfl rfl ?_
                  refine GT_skip rfl rfl rfl rfl rfl (by decide) rfl rfl ?_
                  refine GT_skip rfl rfl rfl rfl rfl (by decide) rfl rfl ?_
                  refine GT_skip rfl rfl rfl rfl rfl (by decide) rfl rfl ?_
                  refine GT_skip rfl rfl rfl rfl rfl (by decide) rfl rfl ?_
                  refine GT_skip rfl rfl rfl rfl rfl (by decide) rfl rfl ?_
                  refine GT_st rfl rfl rfl rfl (V_pick_t rfl rfl rfl) ?_
                  refine GT_st rfl rfl rfl rfl (V_move rfl rfl) ?_
                  refine GT_call0_g rfl rfl rfl rfl rfl rfl rfl rfl rfl rfl rfl rn_16 (fun w hw => C_law05_Works) (GR_nil) ?_
                  refine GT_st rfl rfl rfl rfl (V_pick_t rfl rfl rfl) ?_
                  refine GT_st rfl rfl rfl rfl (V_assign rfl rfl) ?_
                  refine GT_nil ?_
                  refine GE_ret Try.func7 rfl (fun w hw => ⟨?_, hw.nil⟩)
                  rfl
                · obtain ⟨k1, k2⟩ := key hq h8
                  refine GT_st_g rfl rfl rfl rfl rfl rfl rfl (V_move rfl rfl) ?_
                  refine GT_st_g rfl rfl rfl rfl rfl rfl rfl (V_isT (V_eql rfl rfl rfl) k1) ?_
                  refine GT_st_g rfl rfl rfl rfl rfl rfl rfl (V_move rfl rfl) ?_
                  refine GT_st_g rfl rfl rfl rfl rfl rfl rfl (V_move rfl rfl) ?_
                  refine GT_st_g rfl rfl rfl rfl rfl rfl rfl (V_move rfl rfl) ?_
                  refine GT_st_g rfl rfl rfl rfl rfl rfl rfl (V_isT (V_leq rfl rfl rfl) k2) ?_
                  refine GT_st_g rfl rfl rfl rfl rfl rfl rfl (V_pick_t rfl rfl rfl) ?_
                  refine GT_st rfl rfl rfl rfl (V_pick_f rfl rfl rfl) ?_
                  refine GT_st rfl rfl rfl rfl (V_move rfl rfl) ?_
                  refine GT_call0_g rfl rfl rfl rfl rfl rfl rfl rfl rfl rfl rfl rn_16 (fun w hw => C_law05_Works) (GR_nil) ?_
                  refine GT_st rfl rfl rfl rfl (V_pick_t rfl rfl rfl) ?_
                  refine GT_st rfl rfl rfl rfl (V_assign rfl rfl) ?_
                  refine GT_nil ?_
                  refine GE_ret Try.func7 rfl (fun w hw => ⟨?_, hw.nil⟩)
                  rfl
          · skip
            refine GT_skip rfl rfl rfl rfl rfl (by decide) rfl rfl ?_
            refine GT_skip rfl rfl rfl rfl rfl (by decide) rfl rfl ?_
            refine GT_skip rfl rfl rfl rfl rfl (by decide) rfl rfl ?_
            refine GT_skip rfl rfl rfl rfl rfl (by decide) rfl rfl ?_
            refine GT_skip rfl rfl rfl rfl rfl (by decide) rfl rfl ?_
            refine GT_skip_ld rfl rfl rfl rfl rfl (by decide) rfl rfl rfl (GR_nil) ?_
            refine GT_skip rfl rfl rfl rfl rfl (by decide) rfl rfl ?_
            refine GT_skip rfl rfl rfl rfl rfl (by decide) rfl rfl ?_
            refine GT_skip rfl rfl rfl rfl rfl (by decide) rfl rfl ?_
            refine GT_skip rfl rfl rfl rfl rfl (by decide) rfl rfl ?_
            refine GT_skip rfl rfl rfl rfl rfl (by decide) rfl rfl ?_
            refine GT_skip rfl rfl rfl rfl rfl (by decide) rfl rfl ?_
            refine GT_skip rfl rfl rfl rfl rfl (by decide) rfl rfl ?_
            refine GT_skip rfl rfl rfl rfl rfl (by decide) rfl rfl ?_
            refine GT_skip_ld rfl rfl rfl rfl rfl (by decide) rfl rfl rfl (GR_nil) ?_
            refine GT_skip rfl rfl rfl rfl rfl (by decide) rfl rfl ?_
            refine GT_st rfl rfl rfl rfl (V_pick_f rfl rfl rfl) ?_
            refine GT_nil ?_
            refine GE_cond_f rfl ?_
            refine GE_skip ?_
            refine GE_seq ?_
            refine GE_slots (L' := [(1, _), (2, _), (3, _), (4, _), (5, _), (11, _), (12, _)]) ⟨rfl, rfl, rfl, rfl, rfl, rfl, rfl, trivial⟩ ?_
            refine GE_plain (.st 0 (.st 1 (.st 2 (.st 3 (.st 4 (.st 5 (.st 6 (.st 7 (.st 8 (.st 9 (.st 10 (.st 11 (.ld 12 [] (.st 13 (.st 14 (.st 15 (.st 16 (.st 17 (.st 18 (.st 19 (.st 20 (.st 21 (.st 22 (.st 23 (.st 24 (.ld 25 [] (.st 26 (.st 27 .nil)))))))))))))))))))))))))))) rfl ?_
            refine GT_st rfl rfl rfl rfl (V_move rfl rfl) ?_
            refine GT_st rfl rfl rfl rfl (V_lss rfl rfl rfl) ?_
            refine GT_st rfl rfl rfl rfl (V_move rfl rfl) ?_
            first | refine GT_splitNot (d := 82) rfl (fun h6 => ?_) (fun h6 => ?_) | refine GT_split (d := 82) rfl (fun h6 => ?_) (fun h6 => ?_) | refine GT_splitNotB (d := 82) rfl (fun h6 => ?_) (fun h6 => ?_) | refine GT_splitB (d := 82) rfl (fun h6 => ?_) (fun h6 => ?_)
            · skip
              refine GT_skip rfl rfl rfl rfl rfl (by decide) rfl rfl ?_
              refine GT_skip rfl rfl rfl rfl rfl (by decide) rfl rfl ?_
              refine GT_st rfl rfl rfl rfl (V_pick_t rfl rfl rfl) ?_
              refine GT_st rfl rfl rfl rfl (V_move rfl rfl) ?_
              refine GT_skip rfl rfl rfl rfl rfl (by decide) rfl rfl ?_
              refine GT_skip rfl rfl rfl rfl rfl (by decide) rfl rfl ?_
              refine GT_skip rfl rfl rfl rfl rfl (by decide) rfl rfl ?_
              refine GT_skip rfl rfl rfl rfl rfl (by decide) rfl rfl ?_
              refine GT_skip rfl rfl rfl rfl rfl (by decide) rfl rfl ?_
              refine GT_skip_ld rfl rfl rfl rfl rfl (by decide) rfl rfl rfl (GR_nil) ?_
              refine GT_skip rfl rfl rfl rfl rfl (by decide) rfl rfl ?_
              refine GT_st rfl rfl rfl rfl (V_pick_t rfl rfl rfl) ?_
              refine GT_st rfl rfl rfl rfl (V_move rfl rfl) ?_
              refine GT_skip rfl rfl rfl rfl rfl (by decide) rfl rfl ?_
              refine GT_skip rfl rfl rfl rfl rfl (by decide) rfl rfl ?_
              refine GT_skip rfl rfl rfl rfl rfl (by decide) rfl rfl ?_
              refine GT_skip rfl rfl rfl rfl rfl (by decide) rfl rfl ?_
              refine GT_skip rfl rfl rfl rfl rfl (by decide) rfl rfl ?_
              refine GT_skip rfl rfl rfl rfl rfl (by decide) rfl rfl ?_
              refine GT_skip rfl rfl rfl rfl rfl (by decide) rfl rfl ?_
              refine GT_st rfl rfl rfl rfl (V_pick_t rfl rfl rfl) ?_
              refine GT_st rfl rfl rfl rfl (V_move rfl rfl) ?_
              refine GT_call0_g rfl rfl rfl rfl rfl rfl rfl rfl rfl rfl rfl rn_16 (fun w hw => C_law05_Works) (GR_nil) ?_
              refine GT_st rfl rfl rfl rfl (V_pick_t rfl rfl rfl) ?_
              refine GT_st rfl rfl rfl rfl (V_assign rfl rfl) ?_
              refine GT_nil ?_
              refine GE_ret Try.func7 rfl (fun w hw => ⟨?_, hw.nil⟩)
              rfl
            · skip
              refine GT_st_g rfl rfl rfl rfl rfl rfl rfl (V_move rfl rfl) ?_
              refine GT_st_g rfl rfl rfl rfl rfl rfl rfl (V_gtr rfl rfl rfl) ?_
              refine GT_st rfl rfl rfl rfl (V_pick_f rfl rfl rfl) ?_
              refine GT_st rfl rfl rfl rfl (V_move rfl rfl) ?_
              first | refine GT_splitNot (d := 86) rfl (fun h7 => ?_) (fun h7 => ?_) | refine GT_split (d := 86) rfl (fun h7 => ?_) (fun h7 => ?_) | refine GT_splitNotB (d := 86) rfl (fun h7 => ?_) (fun h7 => ?_) | refine GT_splitB (d := 86) rfl (fun h7 => ?_) (fun h7 => ?_)
              · skip
                refine GT_skip rfl rfl rfl rfl rfl (by decide) rfl rfl ?_
                refine GT_skip rfl rfl rfl rfl rfl (by decide) rfl rfl ?_
                refine GT_skip rfl rfl rfl rfl rfl (by decide) rfl rfl ?_
                refine GT_skip rfl rfl rfl rfl rfl (by decide) rfl rfl ?_
                refine GT_skip rfl rfl rfl rfl rfl (by decide) rfl rfl ?_
                refine GT_skip_ld rfl rfl rfl rfl rfl (by decide) rfl rfl rfl (GR_nil) ?_
                refine GT_skip rfl rfl rfl rfl rfl (by decide) rfl rfl ?_
                refine GT_st rfl rfl rfl rfl (V_pick_t rfl rfl rfl) ?_
                refine GT_st rfl rfl rfl rfl (V_move rfl rfl) ?_
                refine GT_skip rfl rfl rfl rfl rfl (by decide) rfl rfl ?_
                refine GT_skip rfl rfl rfl rfl rfl (by decide) rfl rfl ?_
                refine GT_skip rfl rfl rfl rfl rfl (by decide) rfl rfl ?_
                refine GT_skip rfl rfl rfl rfl rfl (by decide) rfl rfl ?_
                refine GT_skip rfl rfl rfl rfl rfl (by decide) rfl rfl ?_
                refine GT_skip rfl rfl rfl rfl rfl (by decide) rfl rfl ?_
                refine GT_skip rfl rfl rfl rfl rfl (by decide) rfl rfl ?_
                refine GT_st rfl rfl rfl rfl (V_pick_t rfl rfl rfl) ?_
                refine GT_st rfl rfl rfl rfl (V_move rfl rfl) ?_
                refine GT_call0_g rfl rfl rfl rfl rfl rfl rfl rfl rfl rfl rfl rn_16 (fun w hw => C_law05_Works) (GR_nil) ?_
                refine GT_st rfl rfl rfl rfl (V_pick_t rfl rfl rfl) ?_
                refine GT_st rfl rfl rfl rfl (V_assign rfl rfl) ?_
                refine GT_nil ?_
                refine GE_ret Try.func7 rfl (fun w hw => ⟨?_, hw.nil⟩)
                rfl
              · skip
                refine GT_st_g rfl rfl rfl rfl rfl rfl rfl (V_loadN (vs := [_, _, _, _, _, _]) rfl rfl ag_23 sz_23 rfl (CellsAt.item rfl)) ?_
                refine GT_st_g rfl rfl rfl rfl rfl rfl rfl (V_move rfl rfl) ?_
                refine GT_st_g rfl rfl rfl rfl rfl rfl rfl (V_move rfl rfl) ?_
                refine GT_st_g rfl rfl rfl rfl rfl rfl rfl (V_move rfl rfl) ?_
                refine GT_st_g rfl rfl rfl rfl rfl rfl rfl (V_move rfl rfl) ?_
                refine GT_call0_g rfl rfl rfl rfl rfl rfl rfl rfl rfl rfl rfl rn_26 (fun w hw => C_law05_right (hp.sh hw) (hr.sh hw) (hfa hq).1 (hfa hq).2.1 (by omega)) (GR_nil) ?_
                first | refine GT_st_g rfl rfl rfl rfl rfl rfl rfl (V_not rfl rfl) ?_ | refine GT_st_g rfl rfl rfl rfl rfl rfl rfl (V_notB rfl rfl) ?_
                refine GT_st rfl rfl rfl rfl (V_pick_f rfl rfl rfl) ?_
                refine GT_st rfl rfl rfl rfl (V_move rfl rfl) ?_
                first | refine GT_splitNot (d := 95) rfl (fun h8 => ?_) (fun h8 => ?_) | refine GT_split (d := 95) rfl (fun h8 => ?_) (fun h8 => ?_) | refine GT_splitNotB (d := 95) rfl (fun h8 => ?_) (fun h8 => ?_) | refine GT_splitB (d := 95) rfl (fun h8 => ?_) (fun h8 => ?_)
                · skip
                  refine GT_skip rfl rfl rfl rfl rfl (by decide) rfl rfl ?_
                  refine GT_skip rfl rfl rfl rfl rfl (by decide) rfl rfl ?_
                  refine GT_skip rfl rfl rfl rfl rfl (by decide) rfl rfl ?_
                  refine GT_skip rfl rfl rfl rfl rfl (by decide) rfl rfl ?_
                  refine GT_skip rfl rfl rfl rfl rfl (by decide) rfl rfl ?_
                  refine GT_skip rfl rfl rfl rfl rfl (by decide) rfl rfl ?_
                  refine GT_skip rfl rfl rfl rfl rfl (by decide) rfl rfl ?_
                  refine GT_st rfl rfl rfl rfl (V_pick_t rfl rfl rfl) ?_
                  refine GT_st rfl rfl rfl rfl (V_move rfl rfl) ?_
                  refine GT_call0_g rfl rfl rfl rfl rfl rfl rfl rfl rfl rfl rfl rn_16 (fun w hw => C_law05_Works) (GR_nil) ?_
                  refine GT_st rfl rfl rfl rfl (V_pick_t rfl rfl rfl) ?_
                  refine GT_st rfl rfl rfl rfl (V_assign rfl rfl) ?_
                  refine GT_nil ?_
                  refine GE_ret Try.func7 rfl (fun w hw => ⟨?_, hw.nil⟩)
                  rfl
                · obtain ⟨k1, k2⟩ := key hq h8
                  refine GT_st_g rfl rfl rfl rfl rfl rfl rfl (V_move rfl rfl) ?_
                  refine GT_st_g rfl rfl rfl rfl rfl rfl rfl (V_isT (V_eql rfl rfl rfl) k1) ?_
                  refine GT_st_g rfl rfl rfl rfl rfl rfl rfl (V_move rfl rfl) ?_
                  refine GT_st_g rfl rfl rfl rfl rfl rfl rfl (V_move rfl rfl) ?_
                  refine GT_st_g rfl rfl rfl rfl rfl rfl rfl (V_move rfl rfl) ?_
                  refine GT_st_g rfl rfl rfl rfl rfl rfl rfl (V_isT (V_leq rfl rfl rfl) k2) ?_
                  refine GT_st_g rfl rfl rfl rfl rfl rfl rfl (V_pick_t rfl rfl rfl) ?_
                  refine GT_st rfl rfl rfl rfl (V_pick_f rfl rfl rfl) ?_
                  refine GT_st rfl rfl rfl rfl (V_move rfl rfl) ?_
                  refine GT_call0_g rfl rfl rfl rfl rfl rfl rfl rfl rfl rfl rfl rn_16 (fun w hw => C_law05_Works) (GR_nil) ?_
                  refine GT_st rfl rfl rfl rfl (V_pick_t rfl rfl rfl) ?_
                  refine GT_st rfl rfl rfl rfl (V_assign rfl rfl) ?_
                  refine GT_nil ?_
                  refine GE_ret Try.func7 rfl (fun w hw => ⟨?_, hw.nil⟩)
                  rfl
      · have hq : (lockRes b l r h).2 = 0 ∨ (lockRes b l r h).2 = 15 := (by omega)
        refine GT_skip rfl rfl rfl rfl rfl (by decide) rfl rfl ?_
        refine GT_skip rfl rfl rfl rfl rfl (by decide) rfl rfl ?_
        refine GT_st rfl rfl rfl rfl (V_pick_f rfl rfl rfl) ?_
        refine GT_nil ?_
        refine GE_cond_f rfl ?_
        refine GE_skip ?_
        refine GE_seq ?_
        refine GE_seq ?_
        refine GE_slots (L' := [(1, _), (2, _), (3, _), (4, _), (5, _), (11, _), (12, _)]) ⟨rfl, rfl, rfl, rfl, rfl, rfl, rfl, trivial⟩ ?_
        refine GE_plain (.st 0 (.st 1 (.st 2 (.st 3 (.st 4 (.st 5 (.st 6 (.st 7 (.st 8 (.st 9 (.st 10 (.st 11 (.st 12 (.st 13 (.st 14 (.st 15 (.st 16 (.st 17 .nil)))))))))))))))))) rfl ?_
        refine GT_st rfl rfl rfl rfl (V_move rfl rfl) ?_
        refine GT_st rfl rfl rfl rfl (V_len rfl Try.underlying25 rfl) ?_
        refine GT_st rfl rfl rfl rfl (V_move rfl rfl) ?_
        refine GT_st rfl rfl rfl rfl (V_len rfl Try.underlying24 rfl) ?_
        refine GT_st rfl rfl rfl rfl (V_isF (V_neq rfl rfl rfl) (fun q => q (by rw [hrl hq]))) ?_
        refine GT_st rfl rfl rfl rfl (V_move rfl rfl) ?_
        refine GT_st_g rfl rfl rfl rfl rfl rfl rfl (V_move rfl rfl) ?_
        refine GT_st_g rfl rfl rfl rfl rfl rfl rfl (V_len rfl Try.underlying24 rfl) ?_
        refine GT_st_g rfl rfl rfl rfl rfl rfl rfl (V_isF (V_eql rfl rfl rfl) (fun q => (hfa hq).2.2.1 (by omega))) ?_
        refine GT_st rfl rfl rfl rfl (V_pick_f rfl rfl rfl) ?_
        refine GT_st rfl rfl rfl rfl (V_move rfl rfl) ?_
        refine GT_st_g rfl rfl rfl rfl rfl rfl rfl (V_move rfl rfl) ?_
        refine GT_st_g rfl rfl rfl rfl rfl rfl rfl (V_isF (V_lss rfl rfl rfl) (by have := (hfa hq).2.1; omega)) ?_
        refine GT_st rfl rfl rfl rfl (V_pick_f rfl rfl rfl) ?_
        refine GT_st rfl rfl rfl rfl (V_move rfl rfl) ?_
        refine GT_st_g rfl rfl rfl rfl rfl rfl rfl (V_move rfl rfl) ?_
        refine GT_st_g rfl rfl rfl rfl rfl rfl rfl (V_isF (V_gtr rfl rfl rfl) (by have := (hfa hq).2.1; omega)) ?_
        refine GT_st rfl rfl rfl rfl (V_pick_f rfl rfl rfl) ?_
        refine GT_nil ?_
        refine GE_cond_f rfl ?_
        refine GE_skip ?_
        refine GE_seq ?_
        refine GE_seq ?_
        refine GE_slots (L' := [(1, _), (2, _), (3, _), (4, _), (5, _), (11, _), (12, _)]) ⟨rfl, rfl, rfl, rfl, rfl, rfl, rfl, trivial⟩ ?_
        refine GE_plain (.st 0 (.st 1 (.st 2 (.st 3 (.st 4 (.st 5 (.st 6 (.st 7 (.ld 8 [] (.st 9 (.st 10 (.st 11 (.st 12 (.st 13 (.st 14 (.st 15 (.st 16 (.ld 17 [] (.st 18 (.st 19 .nil)))))))))))))))))))) rfl ?_
        refine GT_st rfl rfl rfl rfl (V_move rfl rfl) ?_
        refine GT_st rfl rfl rfl rfl (V_eql rfl rfl rfl) ?_
        refine GT_st rfl rfl rfl rfl (V_move rfl rfl) ?_
        first | refine GT_splitNot (d := 62) rfl (fun h5 => ?_) (fun h5 => ?_) | refine GT_split (d := 62) rfl (fun h5 => ?_) (fun h5 => ?_) | refine GT_splitNotB (d := 62) rfl (fun h5 => ?_) (fun h5 => ?_) | refine GT_splitB (d := 62) rfl (fun h5 => ?_) (fun h5 => ?_)
        · obtain ⟨ev, hv1, hv2⟩ := hv0 h5; have hbd1 := hbd hq; have hh := (hfa hq).2.1
          refine GT_st_g rfl rfl rfl rfl rfl rfl rfl (V_loadN (vs := [_, _, _, _, _, _]) rfl rfl ag_23 sz_23 rfl (CellsAt.item rfl)) ?_
          refine GT_st_g rfl rfl rfl rfl rfl rfl rfl (V_move rfl rfl) ?_
          refine GT_st_g rfl rfl rfl rfl rfl rfl rfl (V_move rfl rfl) ?_
          refine GT_st_g rfl rfl rfl rfl rfl rfl rfl (V_move rfl rfl) ?_
          refine GT_st_g rfl rfl rfl rfl rfl rfl rfl (V_move rfl rfl) ?_
          refine GT_call0_g rfl rfl rfl rfl rfl rfl rfl rfl rfl rfl rfl rn_26 (fun w hw => (by have := C_law05_right (c := c) (c2 := c2) (h := h) (x := (lockRes b l r h).1) (hp.sh hw) (hr.sh hw) (hfa hq).1 (hfa hq).2.1 (by omega); rw [hv1] at this; exact this)) (GR_nil) ?_
          first | refine GT_st_g rfl rfl rfl rfl rfl rfl rfl (V_not rfl rfl) ?_ | refine GT_st_g rfl rfl rfl rfl rfl rfl rfl (V_notB rfl rfl) ?_
          refine GT_st_g rfl rfl rfl rfl rfl rfl rfl (V_move rfl rfl) ?_
          refine GT_st_g rfl rfl rfl rfl rfl rfl rfl (V_loadN (vs := [_, _, _, _, _, _]) rfl rfl ag_23 sz_23 rfl (CellsAt.item rfl)) ?_
          refine GT_st_g rfl rfl rfl rfl rfl rfl rfl (V_move rfl rfl) ?_
          refine GT_st_g rfl rfl rfl rfl rfl rfl rfl (V_move rfl rfl) ?_
          refine GT_st_g rfl rfl rfl rfl rfl rfl rfl (V_move rfl rfl) ?_
          refine GT_st_g rfl rfl rfl rfl rfl rfl rfl (V_move rfl rfl) ?_
          refine GT_st_g rfl rfl rfl rfl rfl rfl rfl (V_add rfl rfl rfl (wrap_i64 (by omega))) ?_
          refine GT_call0_g rfl rfl rfl rfl rfl rfl rfl rfl rfl rfl rfl rn_26 (fun w hw => (by have := C_law05_right (c := c) (c2 := c2) (h := h) (x := (lockRes b l r h).1 + 1) (hp.sh hw) (hr.sh hw) (hfa hq).1 (hfa hq).2.1 (by omega); rw [hv2] at this; exact this)) (GR_nil) ?_
          refine GT_st_g rfl rfl rfl rfl rfl rfl rfl (V_pick_f rfl rfl rfl) ?_
          refine GT_st rfl rfl rfl rfl (V_pick_t rfl rfl rfl) ?_
          refine GT_nil ?_
          refine GE_cond_f rfl ?_
          refine GE_skip ?_
          refine GE_seq ?_
          refine GE_slots (L' := [(1, _), (2, _), (3, _), (4, _), (5, _), (11, _), (12, _)]) ⟨rfl, rfl, rfl, rfl, rfl, rfl, rfl, trivial⟩ ?_
          refine GE_plain (.st 0 (.st 1 (.st 2 (.st 3 (.st 4 (.st 5 (.st 6 (.st 7 (.st 8 (.st 9 (.st 10 (.st 11 (.ld 12 [] (.st 13 (.st 14 (.st 15 (.st 16 (.st 17 (.st 18 (.st 19 (.st 20 (.st 21 (.st 22 (.st 23 (.st 24 (.ld 25 [] (.st 26 (.st 27 .nil)))))))))))))))))))))))))))) rfl ?_
          refine GT_st rfl rfl rfl rfl (V_move rfl rfl) ?_
          refine GT_st rfl rfl rfl rfl (V_lss rfl rfl rfl) ?_
          refine GT_st rfl rfl rfl rfl (V_move rfl rfl) ?_
          first | refine GT_splitNot (d := 82) rfl (fun h6 => ?_) (fun h6 => ?_) | refine GT_split (d := 82) rfl (fun h6 => ?_) (fun h6 => ?_) | refine GT_splitNotB (d := 82) rfl (fun h6 => ?_) (fun h6 => ?_) | refine GT_splitB (d := 82) rfl (fun h6 => ?_) (fun h6 => ?_)
          · skip
            refine GT_skip rfl rfl rfl rfl rfl (by decide) rfl rfl ?_
            refine GT_skip rfl rfl rfl rfl rfl (by decide) rfl rfl ?_
            refine GT_st rfl rfl rfl rfl (V_pick_t rfl rfl rfl) ?_
            refine GT_st rfl rfl rfl rfl (V_move rfl rfl) ?_
            refine GT_skip rfl rfl rfl rfl rfl (by decide) rfl rfl ?_
            refine GT_skip rfl rfl rfl rfl rfl (by decide) rfl rfl ?_
            refine GT_skip rfl rfl rfl rfl rfl (by decide) rfl rfl ?_
            refine GT_skip rfl rfl rfl rfl rfl (by decide) rfl rfl ?_
            refine GT_skip rfl rfl rfl rfl rfl (by decide) rfl rfl ?_
            refine GT_skip_ld rfl rfl rfl rfl rfl (by decide) rfl rfl rfl (GR_nil) ?_
            refine GT_skip rfl rfl rfl rfl rfl (by decide) rfl rfl ?_
            refine GT_st rfl rfl rfl rfl (V_pick_t rfl rfl rfl) ?_
            refine GT_st rfl rfl rfl rfl (V_move rfl rfl) ?_
            refine GT_skip rfl rfl rfl rfl rfl (by decide) rfl rfl ?_
            refine GT_skip rfl rfl rfl rfl rfl (by decide) rfl rfl ?_
            refine GT_skip rfl rfl rfl rfl rfl (by decide) rfl rfl ?_
            refine GT_skip rfl rfl rfl rfl rfl (by decide) rfl rfl ?_
            refine GT_skip rfl rfl rfl rfl rfl (by decide) rfl rfl ?_
            refine GT_skip rfl rfl rfl rfl rfl (by decide) rfl rfl ?_
            refine GT_skip rfl rfl rfl rfl rfl (by decide) rfl rfl ?_
            refine GT_st rfl rfl rfl rfl (V_pick_t rfl rfl rfl) ?_
            refine GT_st rfl rfl rfl rfl (V_move rfl rfl) ?_
            refine GT_call0_g rfl rfl rfl rfl rfl rfl rfl rfl rfl rfl rfl rn_16 (fun w hw => C_law05_Works) (GR_nil) ?_
            refine GT_st rfl rfl rfl rfl (V_pick_t rfl rfl rfl) ?_
            refine GT_st rfl rfl rfl rfl (V_assign rfl rfl) ?_
            refine GT_nil ?_
            refine GE_ret Try.func7 rfl (fun w hw => ⟨?_, hw.nil⟩)
            rfl
          · skip
            refine GT_st_g rfl rfl rfl rfl rfl rfl rfl (V_move rfl rfl) ?_
            refine GT_st_g rfl rfl rfl rfl rfl rfl rfl (V_gtr rfl rfl rfl) ?_
            refine GT_st rfl rfl rfl rfl (V_pick_f rfl rfl rfl) ?_
            refine GT_st rfl rfl rfl rfl (V_move rfl rfl) ?_
            first | refine GT_splitNot (d := 86) rfl (fun h7 => ?_) (fun h7 => ?_) | refine GT_split (d := 86) rfl (fun h7 => ?_) (fun h7 => ?_) | refine GT_splitNotB (d := 86) rfl (fun h7 => ?_) (fun h7 => ?_) | refine GT_splitB (d := 86) rfl (fun h7 => ?_) (fun h7 => ?_)
            · skip
              refine GT_skip rfl rfl rfl rfl rfl (by decide) rfl rfl ?_
              refine GT_skip rfl rfl rfl rfl rfl (by decide) rfl rfl ?_
              refine GT_skip rfl rfl rfl rfl rfl (by decide) rfl rfl ?_
              refine GT_skip rfl rfl rfl rfl rfl (by decide) rfl rfl ?_
              refine GT_skip rfl rfl rfl rfl rfl (by decide) rfl rfl ?_
              refine GT_skip_ld rfl rfl rfl rfl rfl (by decide) rfl rfl rfl (GR_nil) ?_
              refine GT_skip rfl rfl rfl rfl rfl (by decide) rfl rfl ?_
              refine GT_st rfl rfl rfl rfl (V_pick_t rfl rfl rfl) ?_
              refine GT_st rfl rfl rfl rfl (V_move rfl rfl) ?_
              refine GT_skip rfl rfl rfl rfl rfl (by decide) rfl rfl ?_
              refine GT_skip rfl rfl rfl rfl rfl (by decide) rfl rfl ?_
              refine GT_skip rfl rfl rfl rfl rfl (by decide) rfl rfl ?_
              refine GT_skip rfl rfl rfl rfl rfl (by decide) rfl rfl ?_
              refine GT_skip rfl rfl rfl rfl rfl (by decide) rfl rfl ?_
              refine GT_skip rfl rfl rfl rfl rfl (by decide) rfl rfl ?_
              refine GT_skip rfl rfl rfl rfl rfl (by decide) rfl rfl ?_
              refine GT_st rfl rfl rfl rfl (V_pick_t rfl rfl rfl) ?_
              refine GT_st rfl rfl rfl rfl (V_move rfl rfl) ?_
              refine GT_call0_g rfl rfl rfl rfl rfl rfl rfl rfl rfl rfl rfl rn_16 (fun w hw => C_law05_Works) (GR_nil) ?_
              refine GT_st rfl rfl rfl rfl (V_pick_t rfl rfl rfl) ?_
              refine GT_st rfl rfl rfl rfl (V_assign rfl rfl) ?_
              refine GT_nil ?_
              refine GE_ret Try.func7 rfl (fun w hw => ⟨?_, hw.nil⟩)
              rfl
            · skip
              refine GT_st_g rfl rfl rfl rfl rfl rfl rfl (V_loadN (vs := [_, _, _, _, _, _]) rfl rfl ag_23 sz_23 rfl (CellsAt.item rfl)) ?_
              refine GT_st_g rfl rfl rfl rfl rfl rfl rfl (V_move rfl rfl) ?_
              refine GT_st_g rfl rfl rfl rfl rfl rfl rfl (V_move rfl rfl) ?_
              refine GT_st_g rfl rfl rfl rfl rfl rfl rfl (V_move rfl rfl) ?_
              refine GT_st_g rfl rfl rfl rfl rfl rfl rfl (V_move rfl rfl) ?_
              refine GT_call0_g rfl rfl rfl rfl rfl rfl rfl rfl rfl rfl rfl rn_26 (fun w hw => C_law05_right (hp.sh hw) (hr.sh hw) (hfa hq).1 (hfa hq).2.1 (by omega)) (GR_nil) ?_
              first | refine GT_st_g rfl rfl rfl rfl rfl rfl rfl (V_not rfl rfl) ?_ | refine GT_st_g rfl rfl rfl rfl rfl rfl rfl (V_notB rfl rfl) ?_
              refine GT_st rfl rfl rfl rfl (V_pick_f rfl rfl rfl) ?_
              refine GT_st rfl rfl rfl rfl (V_move rfl rfl) ?_
              first | refine GT_splitNot (d := 95) rfl (fun h8 => ?_) (fun h8 => ?_) | refine GT_split (d := 95) rfl (fun h8 => ?_) (fun h8 => ?_) | refine GT_splitNotB (d := 95) rfl (fun h8 => ?_) (fun h8 => ?_) | refine GT_splitB (d := 95) rfl (fun h8 => ?_) (fun h8 => ?_)
              · skip
                refine GT_skip rfl rfl rfl rfl rfl (by decide) rfl rfl ?_
                refine GT_skip rfl rfl rfl rfl rfl (by decide) rfl rfl ?_
                refine GT_skip rfl rfl rfl rfl rfl (by decide) rfl rfl ?_
                refine GT_skip rfl rfl rfl rfl rfl (by decide) rfl rfl ?_
                refine GT_skip rfl rfl rfl rfl rfl (by decide) rfl rfl ?_
                refine GT_skip rfl rfl rfl rfl rfl (by decide) rfl rfl ?_
                refine GT_skip rfl rfl rfl rfl rfl (by decide) rfl rfl ?_
                refine GT_st rfl rfl rfl rfl (V_pick_t rfl rfl rfl) ?_
                refine GT_st rfl rfl rfl rfl (V_move rfl rfl) ?_
                refine GT_call0_g rfl rfl rfl rfl rfl rfl rfl rfl rfl rfl rfl rn_16 (fun w hw => C_law05_Works) (GR_nil) ?_
                refine GT_st rfl rfl rfl rfl (V_pick_t rfl rfl rfl) ?_
                refine GT_st rfl rfl rfl rfl (V_assign rfl rfl) ?_
                refine GT_nil ?_
                refine GE_ret Try.func7 rfl (fun w hw => ⟨?_, hw.nil⟩)
                rfl
              · obtain ⟨k1, k2⟩ := key hq h8
                refine GT_st_g rfl rfl rfl rfl rfl rfl rfl (V_move rfl rfl) ?_
                refine GT_st_g rfl rfl rfl rfl rfl rfl rfl (V_isT (V_eql rfl rfl rfl) k1) ?_
                refine GT_st_g rfl rfl rfl rfl rfl rfl rfl (V_move rfl rfl) ?_
                refine GT_st_g rfl rfl rfl rfl rfl rfl rfl (V_move rfl rfl) ?_
                refine GT_st_g rfl rfl rfl rfl rfl rfl rfl (V_move rfl rfl) ?_
                refine GT_st_g rfl rfl rfl rfl rfl rfl rfl (V_isT (V_leq rfl rfl rfl) k2) ?_
                refine GT_st_g rfl rfl rfl rfl rfl rfl rfl (V_pick_t rfl rfl rfl) ?_
                refine GT_st rfl rfl rfl rfl (V_pick_f rfl rfl rfl) ?_
                refine GT_st rfl rfl rfl rfl (V_move rfl rfl) ?_
                refine GT_call0_g rfl rfl rfl rfl rfl rfl rfl rfl rfl rfl rfl rn_16 (fun w hw => C_law05_Works) (GR_nil) ?_
                refine GT_st rfl rfl rfl rfl (V_pick_t rfl rfl rfl) ?_
                refine GT_st rfl rfl rfl rfl (V_assign rfl rfl) ?_
                refine GT_nil ?_
                refine GE_ret Try.func7 rfl (fun w hw => ⟨?_, hw.nil⟩)
                rfl
        · skip
          refine GT_skip rfl rfl rfl rfl rfl (by decide) rfl rfl ?_
          refine GT_skip rfl rfl rfl rfl rfl (by decide) rfl rfl ?_
          refine GT_skip rfl rfl rfl rfl rfl (by decide) rfl rfl ?_
          refine GT_skip rfl rfl rfl rfl rfl (by decide) rfl rfl ?_
          refine GT_skip rfl rfl rfl rfl rfl (by decide) rfl rfl ?_
          refine GT_skip_ld rfl rfl rfl rfl rfl (by decide) rfl rfl rfl (GR_nil) ?_
          refine GT_skip rfl rfl rfl rfl rfl (by decide) rfl rfl ?_
          refine GT_skip rfl rfl rfl rfl rfl (by decide) rfl rfl ?_
          refine GT_skip rfl rfl rfl rfl rfl (by decide) rfl rfl ?_
          refine GT_skip rfl rfl rfl rfl rfl (by decide) rfl rfl ?_
          refine GT_skip rfl rfl rfl rfl rfl (by decide) rfl rfl ?_
          refine GT_skip rfl rfl rfl rfl rfl (by decide) rfl rfl ?_
          refine GT_skip rfl rfl rfl rfl rfl (by decide) rfl rfl ?_
          refine GT_skip rfl rfl rfl rfl rfl (by decide) rfl rfl ?_
          refine GT_skip_ld rfl rfl rfl rfl rfl (by decide) rfl rfl rfl (GR_nil) ?_
          refine GT_skip rfl rfl rfl rfl rfl (by decide) rfl rfl ?_
          refine GT_st rfl rfl rfl rfl (V_pick_f rfl rfl rfl) ?_
          refine GT_nil ?_
          refine GE_cond_f rfl ?_
          refine GE_skip ?_
          refine GE_seq ?_
          refine GE_slots (L' := [(1, _), (2, _), (3, _), (4, _), (5, _), (11, _), (12, _)]) ⟨rfl, rfl, rfl, rfl, rfl, rfl, rfl, trivial⟩ ?_
          refine GE_plain (.st 0 (.st 1 (.st 2 (.st 3 (.st 4 (.st 5 (.st 6 (.st 7 (.st 8 (.st 9 (.st 10 (.st 11 (.ld 12 [] (.st 13 (.st 14 (.st 15 (.st 16 (.st 17 (.st 18 (.st 19 (.st 20 (.st 21 (.st 22 (.st 23 (.st 24 (.ld 25 [] (.st 26 (.st 27 .nil)))))))))))))))))))))))))))) rfl ?_
          refine GT_st rfl rfl rfl rfl (V_move rfl rfl) ?_
          refine GT_st rfl rfl rfl rfl (V_lss rfl rfl rfl) ?_
          refine GT_st rfl rfl rfl rfl (V_move rfl rfl) ?_
          first | refine GT_splitNot (d := 82) rfl (fun h6 => ?_) (fun h6 => ?_) | refine GT_split (d := 82) rfl (fun h6 => ?_) (fun h6 => ?_) | refine GT_splitNotB (d := 82) rfl (fun h6 => ?_) (fun h6 => ?_) | refine GT_splitB (d := 82) rfl (fun h6 => ?_) (fun h6 => ?_)
          · skip
            refine GT_skip rfl rfl rfl rfl rfl (by decide) rfl rfl ?_
            refine GT_skip rfl rfl rfl rfl rfl (by decide) rfl rfl ?_
            refine GT_st rfl rfl rfl rfl (V_pick_t rfl rfl rfl) ?_
            refine GT_st rfl rfl rfl rfl (V_move rfl rfl) ?_
            refine GT_skip rfl rfl rfl rfl rfl (by decide) rfl rfl ?_
            refine GT_skip rfl rfl rfl rfl rfl (by decide) rfl rfl ?_
            refine GT_skip rfl rfl rfl rfl rfl (by decide) rfl rfl ?_
            refine GT_skip rfl rfl rfl rfl rfl (by decide) rfl rfl ?_
            refine GT_skip rfl rfl rfl rfl rfl (by decide) rfl rfl ?_
            refine GT_skip_ld rfl rfl rfl rfl rfl (by decide) rfl rfl rfl (GR_nil) ?_
            refine GT_skip rfl rfl rfl rfl rfl (by decide) rfl rfl ?_
            refine GT_st rfl rfl rfl rfl (V_pick_t rfl rfl rfl) ?_
            refine GT_st rfl rfl rfl rfl (V_move rfl rfl) ?_
            refine GT_skip rfl rfl rfl rfl rfl (by decide) rfl rfl ?_
            refine GT_skip rfl rfl rfl rfl rfl (by decide) rfl rfl ?_
            refine GT_skip rfl rfl rfl rfl rfl (by decide) rfl rfl ?_
            refine GT_skip rfl rfl rfl rfl rfl (by decide) rfl rfl ?_
            refine GT_skip rfl rfl rfl rfl rfl (by decide) rfl rfl ?_
            refine GT_skip rfl rfl rfl rfl rfl (by decide) rfl rfl ?_
            refine GT_skip rfl rfl rfl rfl rfl (by decide) rfl rfl ?_
            refine GT_st rfl rfl rfl rfl (V_pick_t rfl rfl rfl) ?_
            refine GT_st rfl rfl rfl rfl (V_move rfl rfl) ?_
            refine GT_call0_g rfl rfl rfl rfl rfl rfl rfl rfl rfl rfl rfl rn_16 (fun w hw => C_law05_Works) (GR_nil) ?_
            refine GT_st rfl rfl rfl rfl (V_pick_t rfl rfl rfl) ?_
            refine GT_st rfl rfl rfl rfl (V_assign rfl rfl) ?_
            refine GT_nil ?_
            refine GE_ret Try.func7 rfl (fun w hw => ⟨?_, hw.nil⟩)
            rfl
          · skip
            refine GT_st_g rfl rfl rfl rfl rfl rfl rfl (V_move rfl rfl) ?_
            refine GT_st_g rfl rfl rfl rfl rfl rfl rfl (V_gtr rfl rfl rfl) ?_
            refine GT_st rfl rfl rfl rfl (V_pick_f rfl rfl rfl) ?_
            refine GT_st rfl rfl rfl rfl (V_move rfl rfl) ?_
            first | refine GT_splitNot (d := 86) rfl (fun h7 => ?_) (fun h7 => ?_) | refine GT_split (d := 86) rfl (fun h7 => ?_) (fun h7 => ?_) | refine GT_splitNotB (d := 86) rfl (fun h7 => ?_) (fun h7 => ?_) | refine GT_splitB (d := 86) rfl (fun h7 => ?_) (fun h7 => ?_)
            · skip
              refine GT_skip rfl rfl rfl rfl rfl (by decide) rfl rfl ?_
              refine GT_skip rfl rfl rfl rfl rfl (by decide) rfl rfl ?_
              refine GT_skip rfl rfl rfl rfl rfl (by decide) rfl rfl ?_
              refine GT_skip rfl rfl rfl rfl rfl (by decide) rfl rfl ?_
              refine GT_skip rfl rfl rfl rfl rfl (by decide) rfl rfl ?_
              refine GT_skip_ld rfl rfl rfl rfl rfl (by decide) rfl rfl rfl (GR_nil) ?_
              refine GT_skip rfl rfl rfl rfl rfl (by decide) rfl rfl ?_
              refine GT_st rfl rfl rfl rfl (V_pick_t rfl rfl rfl) ?_
              refine GT_st rfl rfl rfl rfl (V_move rfl rfl) ?_
              refine GT_skip rfl rfl rfl rfl rfl (by decide) rfl rfl ?_
              refine GT_skip rfl rfl rfl rfl rfl (by decide) rfl rfl ?_
              refine GT_skip rfl rfl rfl rfl rfl (by decide) rfl rfl ?_
              refine GT_skip rfl rfl rfl rfl rfl (by decide) rfl rfl ?_
              refine GT_skip rfl rfl rfl rfl rfl (by decide) rfl rfl ?_
              refine GT_skip rfl rfl rfl rfl rfl (by decide) rfl rfl ?_
              refine GT_skip rfl rfl rfl rfl rfl (by decide) rfl rfl ?_
              refine GT_st rfl rfl rfl rfl (V_pick_t rfl rfl rfl) ?_
              refine GT_st rfl rfl rfl rfl (V_move rfl rfl) ?_
              refine GT_call0_g rfl rfl rfl rfl rfl rfl rfl rfl rfl rfl rfl rn_16 (fun w hw => C_law05_Works) (GR_nil) ?_
              refine GT_st rfl rfl rfl rfl (V_pick_t rfl rfl rfl) ?_
              refine GT_st rfl rfl rfl rfl (V_assign rfl rfl) ?_
              refine GT_nil ?_
              refine GE_ret Try.func7 rfl (fun w hw => ⟨?_, hw.nil⟩)
              rfl
            · skip
              refine GT_st_g rfl rfl rfl rfl rfl rfl rfl (V_loadN (vs := [_, _, _, _, _, _]) rfl rfl ag_23 sz_23 rfl (CellsAt.item rfl)) ?_
              refine GT_st_g rfl rfl rfl rfl rfl rfl rfl (V_move rfl rfl) ?_
              refine GT_st_g rfl rfl rfl rfl rfl rfl rfl (V_move rfl rfl) ?_
              refine GT_st_g rfl rfl rfl rfl rfl rfl rfl (V_move rfl rfl) ?_
              refine GT_st_g rfl rfl rfl rfl rfl rfl rfl (V_move rfl rfl) ?_
              refine GT_call0_g rfl rfl rfl rfl rfl rfl rfl rfl rfl rfl rfl rn_26 (fun w hw => C_law05_right (hp.sh hw) (hr.sh hw) (hfa hq).1 (hfa hq).2.1 (by omega)) (GR_nil) ?_
              first | refine GT_st_g rfl rfl rfl rfl rfl rfl rfl (V_not rfl rfl) ?_ | refine GT_st_g rfl rfl rfl rfl rfl rfl rfl (V_notB rfl rfl) ?_
              refine GT_st rfl rfl rfl rfl (V_pick_f rfl rfl rfl) ?_
              refine GT_st rfl rfl rfl rfl (V_move rfl rfl) ?_
              first | refine GT_splitNot (d := 95) rfl (fun h8 => ?_) (fun h8 => ?_) | refine GT_split (d := 95) rfl (fun h8 => ?_) (fun h8 => ?_) | refine GT_splitNotB (d := 95) rfl (fun h8 => ?_) (fun h8 => ?_) | refine GT_splitB (d := 95) rfl (fun h8 => ?_) (fun h8 => ?_)
              · skip
                refine GT_skip rfl rfl rfl rfl rfl (by decide) rfl rfl ?_
                refine GT_skip rfl rfl rfl rfl rfl (by decide) rfl rfl ?_
                refine GT_skip rfl rfl rfl rfl rfl (by decide) rfl rfl ?_
                refine GT_skip rfl rfl rfl rfl rfl (by decide) rfl rfl ?_
                refine GT_skip rfl rfl rfl rfl rfl (by decide) rfl rfl ?_
                refine GT_skip rfl rfl rfl rfl rfl (by decide) rfl rfl ?_
                refine GT_skip rfl rfl rfl rfl rfl (by decide) rfl rfl ?_
                refine GT_st rfl rfl rfl rfl (V_pick_t rfl rfl rfl) ?_
                refine GT_st rfl rfl rfl rfl (V_move rfl rfl) ?_
                refine GT_call0_g rfl rfl rfl rfl rfl rfl rfl rfl rfl rfl rfl rn_16 (fun w hw => C_law05_Works) (GR_nil) ?_
                refine GT_st rfl rfl rfl rfl (V_pick_t rfl rfl rfl) ?_
                refine GT_st rfl rfl rfl rfl (V_assign rfl rfl) ?_
                refine GT_nil ?_
                refine GE_ret Try.func7 rfl (fun w hw => ⟨?_, hw.nil⟩)
                rfl
              · obtain ⟨k1, k2⟩ := key hq h8
                refine GT_st_g rfl rfl rfl rfl rfl rfl rfl (V_move rfl rfl) ?_
                refine GT_st_g rfl rfl rfl rfl rfl rfl rfl (V_isT (V_eql rfl rfl rfl) k1) ?_
                refine GT_st_g rfl rfl rfl rfl rfl rfl rfl (V_move rfl rfl) ?_
                refine GT_st_g rfl rfl rfl rfl rfl rfl rfl (V_move rfl rfl) ?_
                refine GT_st_g rfl rfl rfl rfl rfl rfl rfl (V_move rfl rfl) ?_
                refine GT_st_g rfl rfl rfl rfl rfl rfl rfl (V_isT (V_leq rfl rfl rfl) k2) ?_
                refine GT_st_g rfl rfl rfl rfl rfl rfl rfl (V_pick_t rfl rfl rfl) ?_
                refine GT_st rfl rfl rfl rfl (V_pick_f rfl rfl rfl) ?_
                refine GT_st rfl rfl rfl rfl (V_move rfl rfl) ?_
                refine GT_call0_g rfl rfl rfl rfl rfl rfl rfl rfl rfl rfl rfl rn_16 (fun w hw => C_law05_Works) (GR_nil) ?_
                refine GT_st rfl rfl rfl rfl (V_pick_t rfl rfl rfl) ?_
                refine GT_st rfl rfl rfl rfl (V_assign rfl rfl) ?_
                refine GT_nil ?_
                refine GE_ret Try.func7 rfl (fun w hw => ⟨?_, hw.nil⟩)
                rfl
end Go.Proofs.Ytacmnmcaeflflaa
