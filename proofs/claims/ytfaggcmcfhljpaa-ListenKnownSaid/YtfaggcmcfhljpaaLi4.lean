/- Plates, discs, the room: walked. -/
import Derived.Test.YtfaggcmcfhljpaaSxE
import Derived.Test.YtfaggcmcfhljpaaLi1
import Derived.Test.YtfaggcmcfhljpaaLiT
namespace Go.Proofs.Ytfaggcmcfhljpaa
open Go.Sx Go.Proofs

section
variable {p : List Plt} {d : List Dsc} {A A2 : Option Addr} {c c2 : Nat} {side : Int} {w : World}
theorem plOk_iff {i : Nat} : plOk p i = true ↔ ((p.getD i default).kind = 0 ∧ (p.getD i default).par = -1) ∨ ((1 ≤ (p.getD i default).kind ∧ (p.getD i default).kind ≤ 3) ∧ (0 ≤ (p.getD i default).par ∧ (p.getD i default).par ≤ (i : Int) - 1) ∧ (p.getD (p.getD i default).par.toNat default).kind + 1 = (p.getD i default).kind) := by
  unfold plOk
  simp only [Bool.or_eq_true, Bool.and_eq_true, decide_eq_true_eq, betw_iff, and_assoc]
theorem plCheck_ok (h : p.length ≤ 256) (h2 : PlOk p) : plCheck p = 0 := plCheck_zero.2 ⟨h, h2⟩
theorem plCheck_bad (h : p.length ≤ 256) {i : Nat} (hi : i < p.length) (h2 : ¬ plOk p i = true) : plCheck p = 2 := by
  unfold plCheck; rw [if_neg (by omega), if_neg (fun q => h2 (q i hi))]
theorem plOk_kind (hk : ∀ j, j < c → plOk p j = true) {j : Nat} (hj : j < c) : 0 ≤ (p.getD j default).kind ∧ (p.getD j default).kind ≤ 3 := by
  have := plOk_iff.1 (hk j hj); omega

theorem C_listen_CheckPlates (hp : RdL w 7 ePlt A p) (hwf : ∀ x ∈ p, Plt.wf x) :
    Con0 Try.prog 70 [.slice A p.length c] w (I (plCheck p)) := by
  refine Ret_of (vs := [_]) hm none' Try.func70 rfl Try.ntmps70 rfl ?_
  dsimp only [slotsOf]
  refine GE_seq ?_
  refine GE_plain (.st 0 .nil) rfl ?_
  refine GT_st rfl rfl rfl rfl (V_assign rfl rfl) ?_
  refine GT_nil ?_
  refine GE_seq ?_
  refine GE_seq ?_
  refine GE_plain (.st 0 (.st 1 (.st 2 .nil))) rfl ?_
  refine GT_st rfl rfl rfl rfl (V_move rfl rfl) ?_
  refine GT_st rfl rfl rfl rfl (V_len rfl Try.underlying36 rfl) ?_
  refine GT_st rfl rfl rfl rfl (V_gtr rfl rfl rfl) ?_
  refine GT_nil ?_
  first | refine GE_condNot rfl (fun h1 => ?_) (fun h1 => ?_) | refine GE_cond rfl (fun h1 => ?_) (fun h1 => ?_) | refine GE_condNotB rfl (fun h1 => ?_) (fun h1 => ?_) | refine GE_condB rfl (fun h1 => ?_) (fun h1 => ?_)
  · skip
    refine GE_seq ?_
    refine GE_slots (L' := []) trivial ?_
    refine GE_plain (.st 0 .nil) rfl ?_
    refine GT_st rfl rfl rfl rfl (V_assign rfl rfl) ?_
    refine GT_nil ?_
    refine GE_ret Try.func70 rfl (fun w hw => ⟨?_, hw.nil⟩)
    unfold plCheck; rw [if_pos (by omega)]
  · skip
    refine GE_skip ?_
    refine GE_seq ?_
    refine GE_seq ?_
    refine GE_slots (L' := [(0, _)]) ⟨rfl, trivial⟩ ?_
    refine GE_plain (.st 0 (.st 1 (.st 2 .nil))) rfl ?_
    refine GT_st rfl rfl rfl rfl (V_move rfl rfl) ?_
    refine GT_st rfl rfl rfl rfl (V_len rfl Try.underlying36 rfl) ?_
    refine GT_st rfl rfl rfl rfl (V_move rfl rfl) ?_
    refine GT_nil ?_
    refine GE_block ?_
    refine GE_to (GE_loop (ι := Nat) (fun k => p.length - k) (fun k => [(0, .slice A p.length c), (8, .slice A p.length c), (9, I p.length), (10, I k)]) (fun k => []) (fun k => k ≤ p.length ∧ ∀ j, j < k → plOk p j = true) ?_ 0 ?_) ⟨rfl, rfl, rfl, rfl, trivial⟩ HS.nil
    · rintro k ⟨hk, hall⟩ ih
      refine GE_seq ?_
      refine GE_plain (.st 0 .nil) rfl ?_
      refine GT_st rfl rfl rfl rfl (V_lss rfl rfl rfl) ?_
      refine GT_nil ?_
      refine GE_seq ?_
      first | refine GE_condNot rfl (fun h2 => ?_) (fun h2 => ?_) | refine GE_cond rfl (fun h2 => ?_) (fun h2 => ?_) | refine GE_condNotB rfl (fun h2 => ?_) (fun h2 => ?_) | refine GE_condB rfl (fun h2 => ?_) (fun h2 => ?_)
      · have hkl : k < p.length := (by omega); obtain ⟨hw1, hw2⟩ := hwf (p.getD k default) (by simp [List.getD, hkl]); unfold I64 at hw1 hw2
        refine GE_skip ?_
        refine GE_seq ?_
        refine GE_block ?_
        refine GE_seq ?_
        refine GE_plain (.st 0 (.st 1 (.st 2 (.ld 3 [] (.st 4 (.ld 5 [] .nil)))))) rfl ?_
        refine GT_st rfl rfl rfl rfl (V_move rfl rfl) ?_
        refine GT_st rfl rfl rfl rfl (V_index rfl rfl rfl Try.underlying36 sz_53 (k := k) rfl hkl (hp.isSome hkl)) ?_
        refine GT_st rfl rfl rfl rfl (V_loadN (vs := [_, _, _, _, _, _, _]) rfl rfl ag_53 sz_53 rfl (hp.ats noM hkl)) ?_
        refine GT_alloc rfl rfl rfl rfl rfl zc_53 (fun _ => GR_nil) (fun b4 => ?_)
        refine GT_st rfl rfl rfl rfl (V_assign rfl rfl) ?_
        refine GT_store (vs := [_, _, _, _, _, _, _]) (l' := [_, _, _, _, _, _, _]) rfl rfl rfl rfl rfl rfl rfl sz_53 rfl rfl (Nat.le_of_ble_eq_true rfl) rfl (GR_nil) ?_
        refine GT_nil ?_
        refine GE_block ?_
        refine GE_seq ?_
        refine GE_slots (L' := [(0, _), (3, _), (4, _), (8, _), (9, _), (10, _)]) ⟨rfl, rfl, rfl, rfl, rfl, rfl, trivial⟩ ?_
        refine GE_plain (.st 0 (.st 1 (.st 2 (.st 3 (.st 4 (.st 5 (.st 6 (.st 7 (.st 8 .nil))))))))) rfl ?_
        first | refine GT_st rfl rfl rfl rfl (V_field rfl rfl fo_53_0) ?_ | refine GT_st rfl rfl rfl rfl (V_fieldA rfl rfl fo_53_0) ?_
        refine GT_st rfl rfl rfl rfl (V_load rfl rfl ag_3 (CellAt.item rfl)) ?_
        refine GT_st rfl rfl rfl rfl (V_eql rfl rfl rfl) ?_
        refine GT_st rfl rfl rfl rfl (V_move rfl rfl) ?_
        first | refine GT_splitNot (d := 19) rfl (fun h3 => ?_) (fun h3 => ?_) | refine GT_split (d := 19) rfl (fun h3 => ?_) (fun h3 => ?_) | refine GT_splitNotB (d := 19) rfl (fun h3 => ?_) (fun h3 => ?_) | refine GT_splitB (d := 19) rfl (fun h3 => ?_) (fun h3 => ?_)
        · skip
          first | refine GT_st_g rfl rfl rfl rfl rfl rfl rfl (V_field rfl rfl fo_53_1) ?_ | refine GT_st_g rfl rfl rfl rfl rfl rfl rfl (V_fieldA rfl rfl fo_53_1) ?_
          refine GT_st_g rfl rfl rfl rfl rfl rfl rfl (V_load rfl rfl ag_3 (CellAt.item rfl)) ?_
          refine GT_st_g rfl rfl rfl rfl rfl rfl rfl (V_eql rfl rfl rfl) ?_
          refine GT_st rfl rfl rfl rfl (V_pick_t rfl rfl rfl) ?_
          refine GT_st rfl rfl rfl rfl (V_assign rfl rfl) ?_
          refine GT_nil ?_
          first | refine GE_condNot rfl (fun h4 => ?_) (fun h4 => ?_) | refine GE_cond rfl (fun h4 => ?_) (fun h4 => ?_) | refine GE_condNotB rfl (fun h4 => ?_) (fun h4 => ?_) | refine GE_condB rfl (fun h4 => ?_) (fun h4 => ?_)
          · have hok : plOk p k = true := (plOk_iff.2 (.inl ⟨h3, h4⟩))
            refine GE_skip ?_
            refine GE_inBlock ?_
            refine GE_inBlock ?_
            refine GE_slots (L' := [(0, _), (8, _), (9, _), (10, _), (20, _), (21, _), (22, _)]) ⟨rfl, rfl, rfl, rfl, rfl, rfl, rfl, trivial⟩ ?_
            refine GE_plain (.st 0 (.ld 1 [] .nil)) rfl ?_
            refine GT_st rfl rfl rfl rfl (V_add rfl rfl rfl (wrap_i64 (by omega))) ?_
            refine GT_ldv rfl rfl rfl rfl rfl (V_move rfl rfl) (GR_nil) ?_
            refine GT_nil ?_
            exact GE_to (ih (k + 1) ⟨by omega, fun j hj => by rcases Nat.lt_or_ge j k with q | q; exact hall j q; obtain rfl : j = k := (by omega); exact hok⟩ (by omega)) ⟨rfl, rfl, rfl, rfl, trivial⟩ HS.nil
          · skip
            refine GE_seq ?_
            refine GE_slots (L' := [(0, _), (3, _), (4, _), (8, _), (9, _), (10, _), (20, _), (21, _), (22, _)]) ⟨rfl, rfl, rfl, rfl, rfl, rfl, rfl, rfl, rfl, trivial⟩ ?_
            refine GE_drawn (.st 0 (.st 1 (.ld 2 [] (.st 3 (.st 4 (.st 5 (.st 6 (.st 7 (.st 8 (.ld 9 [] (.st 10 (.st 11 (.st 12 (.st 13 (.st 14 (.st 15 (.st 16 (.st 17 (.st 18 (.st 19 (.st 20 (.st 21 (.st 22 (.st 23 (.st 24 .nil))))))))))))))))))))))))) [2, 9] (by decide +kernel) ?_
            first | refine GT_st rfl rfl rfl rfl (V_field rfl rfl fo_53_0) ?_ | refine GT_st rfl rfl rfl rfl (V_fieldA rfl rfl fo_53_0) ?_
            refine GT_st rfl rfl rfl rfl (V_load rfl rfl ag_3 (CellAt.item rfl)) ?_
            refine GT_call0 rfl rfl rfl rfl rfl rfl rfl rfl rn_38 (fun w hw => C_betw) (GR_nil) ?_
            first | refine GT_st rfl rfl rfl rfl (V_not rfl rfl) ?_ | refine GT_st rfl rfl rfl rfl (V_notB rfl rfl) ?_
            refine GT_st rfl rfl rfl rfl (V_move rfl rfl) ?_
            first | refine GT_splitNot (d := 29) rfl (fun h5 => ?_) (fun h5 => ?_) | refine GT_split (d := 29) rfl (fun h5 => ?_) (fun h5 => ?_) | refine GT_splitNotB (d := 29) rfl (fun h5 => ?_) (fun h5 => ?_) | refine GT_splitB (d := 29) rfl (fun h5 => ?_) (fun h5 => ?_)
            · have hbad : ¬ plOk p k = true := (fun q => by rcases plOk_iff.1 q with q | q; (first | exact h4 q.2 | exact h3 q.1); rw [← Bool.not_eq_true, betw_iff] at h5; exact h5 q.1)
              refine GT_skip rfl rfl rfl rfl rfl (by decide) rfl rfl ?_
              refine GT_skip rfl rfl rfl rfl rfl (by decide) rfl rfl ?_
              refine GT_skip rfl rfl rfl rfl rfl (by decide) rfl rfl ?_
              refine GT_skip rfl rfl rfl rfl rfl (by decide) rfl rfl ?_
              refine GT_skip_ld rfl rfl rfl rfl rfl (by decide) rfl rfl rfl (GR_nil) ?_
              refine GT_skip rfl rfl rfl rfl rfl (by decide) rfl rfl ?_
              refine GT_st rfl rfl rfl rfl (V_pick_t rfl rfl rfl) ?_
              refine GT_st rfl rfl rfl rfl (V_move rfl rfl) ?_
              refine GT_skip rfl rfl rfl rfl rfl (by decide) rfl rfl ?_
              refine GT_skip rfl rfl rfl rfl rfl (by decide) rfl rfl ?_
              refine GT_skip rfl rfl rfl rfl rfl (by decide) rfl rfl ?_
              refine GT_skip rfl rfl rfl rfl rfl (by decide) rfl rfl ?_
              refine GT_skip rfl rfl rfl rfl rfl (by decide) rfl rfl ?_
              refine GT_skip rfl rfl rfl rfl rfl (by decide) rfl rfl ?_
              refine GT_skip rfl rfl rfl rfl rfl (by decide) rfl rfl ?_
              refine GT_skip rfl rfl rfl rfl rfl (by decide) rfl rfl ?_
              refine GT_skip rfl rfl rfl rfl rfl (by decide) rfl rfl ?_
              refine GT_skip rfl rfl rfl rfl rfl (by decide) rfl rfl ?_
              refine GT_st rfl rfl rfl rfl (V_pick_t rfl rfl rfl) ?_
              refine GT_st rfl rfl rfl rfl (V_assign rfl rfl) ?_
              refine GT_nil ?_
              refine GE_cond_t rfl ?_
              refine GE_seq ?_
              refine GE_slots (L' := []) trivial ?_
              refine GE_plain (.st 0 .nil) rfl ?_
              refine GT_st rfl rfl rfl rfl (V_assign rfl rfl) ?_
              refine GT_nil ?_
              refine GE_ret Try.func70 rfl (fun w hw => ⟨?_, hw.nil⟩)
              rw [plCheck_bad (by omega) hkl hbad]
            · skip
              first | refine GT_st_g rfl rfl rfl rfl rfl rfl rfl (V_field rfl rfl fo_53_1) ?_ | refine GT_st_g rfl rfl rfl rfl rfl rfl rfl (V_fieldA rfl rfl fo_53_1) ?_
              refine GT_st_g rfl rfl rfl rfl rfl rfl rfl (V_load rfl rfl ag_3 (CellAt.item rfl)) ?_
              refine GT_st_g rfl rfl rfl rfl rfl rfl rfl (V_move rfl rfl) ?_
              refine GT_st_g rfl rfl rfl rfl rfl rfl rfl (V_sub rfl rfl rfl (wrap_i64 (by omega))) ?_
              refine GT_call0_g rfl rfl rfl rfl rfl rfl rfl rfl rfl rfl rfl rn_38 (fun w hw => C_betw) (GR_nil) ?_
              first | refine GT_st_g rfl rfl rfl rfl rfl rfl rfl (V_not rfl rfl) ?_ | refine GT_st_g rfl rfl rfl rfl rfl rfl rfl (V_notB rfl rfl) ?_
              refine GT_st rfl rfl rfl rfl (V_pick_f rfl rfl rfl) ?_
              refine GT_st rfl rfl rfl rfl (V_move rfl rfl) ?_
              first | refine GT_splitNot (d := 37) rfl (fun h6 => ?_) (fun h6 => ?_) | refine GT_split (d := 37) rfl (fun h6 => ?_) (fun h6 => ?_) | refine GT_splitNotB (d := 37) rfl (fun h6 => ?_) (fun h6 => ?_) | refine GT_splitB (d := 37) rfl (fun h6 => ?_) (fun h6 => ?_)
              · have hbad : ¬ plOk p k = true := (fun q => by rcases plOk_iff.1 q with q | q; (first | exact h4 q.2 | exact h3 q.1); rw [← Bool.not_eq_true, betw_iff] at h6; exact h6 q.2.1)
                refine GT_skip rfl rfl rfl rfl rfl (by decide) rfl rfl ?_
                refine GT_skip rfl rfl rfl rfl rfl (by decide) rfl rfl ?_
                refine GT_skip rfl rfl rfl rfl rfl (by decide) rfl rfl ?_
                refine GT_skip rfl rfl rfl rfl rfl (by decide) rfl rfl ?_
                refine GT_skip rfl rfl rfl rfl rfl (by decide) rfl rfl ?_
                refine GT_skip rfl rfl rfl rfl rfl (by decide) rfl rfl ?_
                refine GT_skip rfl rfl rfl rfl rfl (by decide) rfl rfl ?_
                refine GT_skip rfl rfl rfl rfl rfl (by decide) rfl rfl ?_
                refine GT_skip rfl rfl rfl rfl rfl (by decide) rfl rfl ?_
                refine GT_skip rfl rfl rfl rfl rfl (by decide) rfl rfl ?_
                refine GT_st rfl rfl rfl rfl (V_pick_t rfl rfl rfl) ?_
                refine GT_st rfl rfl rfl rfl (V_assign rfl rfl) ?_
                refine GT_nil ?_
                refine GE_cond_t rfl ?_
                refine GE_seq ?_
                refine GE_slots (L' := []) trivial ?_
                refine GE_plain (.st 0 .nil) rfl ?_
                refine GT_st rfl rfl rfl rfl (V_assign rfl rfl) ?_
                refine GT_nil ?_
                refine GE_ret Try.func70 rfl (fun w hw => ⟨?_, hw.nil⟩)
                rw [plCheck_bad (by omega) hkl hbad]
              · rw [betw_iff] at h5 h6; have hkd := plOk_kind hall (j := (p.getD k default).par.toNat) (by omega)
                refine GT_st_g rfl rfl rfl rfl rfl rfl rfl (V_move rfl rfl) ?_
                first | refine GT_st_g rfl rfl rfl rfl rfl rfl rfl (V_field rfl rfl fo_53_1) ?_ | refine GT_st_g rfl rfl rfl rfl rfl rfl rfl (V_fieldA rfl rfl fo_53_1) ?_
                refine GT_st_g rfl rfl rfl rfl rfl rfl rfl (V_load rfl rfl ag_3 (CellAt.item rfl)) ?_
                refine GT_st_g rfl rfl rfl rfl rfl rfl rfl (V_index rfl rfl rfl Try.underlying36 sz_53 (k := (p.getD k default).par.toNat) (by omega) (by omega) (hp.isSome hkl)) ?_
                first | refine GT_st_g rfl rfl rfl rfl rfl rfl rfl (V_field rfl rfl fo_53_0) ?_ | refine GT_st_g rfl rfl rfl rfl rfl rfl rfl (V_fieldA rfl rfl fo_53_0) ?_
                refine GT_st_g rfl rfl rfl rfl rfl rfl rfl (V_load rfl rfl ag_3 (hp.at0 noM (by omega) rfl)) ?_
                refine GT_st_g rfl rfl rfl rfl rfl rfl rfl (V_add rfl rfl rfl (wrap_i64 (by omega))) ?_
                first | refine GT_st_g rfl rfl rfl rfl rfl rfl rfl (V_field rfl rfl fo_53_0) ?_ | refine GT_st_g rfl rfl rfl rfl rfl rfl rfl (V_fieldA rfl rfl fo_53_0) ?_
                refine GT_st_g rfl rfl rfl rfl rfl rfl rfl (V_load rfl rfl ag_3 (CellAt.item rfl)) ?_
                refine GT_st_g rfl rfl rfl rfl rfl rfl rfl (V_neq rfl rfl rfl) ?_
                refine GT_st rfl rfl rfl rfl (V_pick_f rfl rfl rfl) ?_
                refine GT_st rfl rfl rfl rfl (V_assign rfl rfl) ?_
                refine GT_nil ?_
                first | refine GE_condNot rfl (fun h7 => ?_) (fun h7 => ?_) | refine GE_cond rfl (fun h7 => ?_) (fun h7 => ?_) | refine GE_condNotB rfl (fun h7 => ?_) (fun h7 => ?_) | refine GE_condB rfl (fun h7 => ?_) (fun h7 => ?_)
                · have hbad : ¬ plOk p k = true := (fun q => by rcases plOk_iff.1 q with q | q; (first | exact h4 q.2 | exact h3 q.1); exact h7 q.2.2)
                  refine GE_seq ?_
                  refine GE_slots (L' := []) trivial ?_
                  refine GE_plain (.st 0 .nil) rfl ?_
                  refine GT_st rfl rfl rfl rfl (V_assign rfl rfl) ?_
                  refine GT_nil ?_
                  refine GE_ret Try.func70 rfl (fun w hw => ⟨?_, hw.nil⟩)
                  rw [plCheck_bad (by omega) hkl hbad]
                · have hok : plOk p k = true := (plOk_iff.2 (.inr ⟨h5, h6, by omega⟩))
                  refine GE_skip ?_
                  refine GE_inBlock ?_
                  refine GE_inBlock ?_
                  refine GE_slots (L' := [(0, _), (8, _), (9, _), (10, _), (20, _), (21, _), (22, _), (30, _), (31, _), (32, _), (33, _), (34, _), (35, _), (38, _), (39, _), (40, _), (41, _), (42, _), (43, _), (44, _), (45, _), (46, _), (47, _)]) ⟨rfl, rfl, rfl, rfl, rfl, rfl, rfl, rfl, rfl, rfl, rfl, rfl, rfl, rfl, rfl, rfl, rfl, rfl, rfl, rfl, rfl, rfl, rfl, trivial⟩ ?_
                  refine GE_plain (.st 0 (.ld 1 [] .nil)) rfl ?_
                  refine GT_st rfl rfl rfl rfl (V_add rfl rfl rfl (wrap_i64 (by omega))) ?_
                  refine GT_ldv rfl rfl rfl rfl rfl (V_move rfl rfl) (GR_nil) ?_
                  refine GT_nil ?_
                  exact GE_to (ih (k + 1) ⟨by omega, fun j hj => by rcases Nat.lt_or_ge j k with q | q; exact hall j q; obtain rfl : j = k := (by omega); exact hok⟩ (by omega)) ⟨rfl, rfl, rfl, rfl, trivial⟩ HS.nil
        · skip
          refine GT_skip rfl rfl rfl rfl rfl (by decide) rfl rfl ?_
          refine GT_skip rfl rfl rfl rfl rfl (by decide) rfl rfl ?_
          refine GT_skip rfl rfl rfl rfl rfl (by decide) rfl rfl ?_
          refine GT_st rfl rfl rfl rfl (V_pick_f rfl rfl rfl) ?_
          refine GT_st rfl rfl rfl rfl (V_assign rfl rfl) ?_
          refine GT_nil ?_
          refine GE_cond_f rfl ?_
          refine GE_seq ?_
          refine GE_slots (L' := [(0, _), (3, _), (4, _), (8, _), (9, _), (10, _), (20, _), (21, _), (22, _)]) ⟨rfl, rfl, rfl, rfl, rfl, rfl, rfl, rfl, rfl, trivial⟩ ?_
          refine GE_drawn (.st 0 (.st 1 (.ld 2 [] (.st 3 (.st 4 (.st 5 (.st 6 (.st 7 (.st 8 (.ld 9 [] (.st 10 (.st 11 (.st 12 (.st 13 (.st 14 (.st 15 (.st 16 (.st 17 (.st 18 (.st 19 (.st 20 (.st 21 (.st 22 (.st 23 (.st 24 .nil))))))))))))))))))))))))) [2, 9] (by decide +kernel) ?_
          first | refine GT_st rfl rfl rfl rfl (V_field rfl rfl fo_53_0) ?_ | refine GT_st rfl rfl rfl rfl (V_fieldA rfl rfl fo_53_0) ?_
          refine GT_st rfl rfl rfl rfl (V_load rfl rfl ag_3 (CellAt.item rfl)) ?_
          refine GT_call0 rfl rfl rfl rfl rfl rfl rfl rfl rn_38 (fun w hw => C_betw) (GR_nil) ?_
          first | refine GT_st rfl rfl rfl rfl (V_not rfl rfl) ?_ | refine GT_st rfl rfl rfl rfl (V_notB rfl rfl) ?_
          refine GT_st rfl rfl rfl rfl (V_move rfl rfl) ?_
          first | refine GT_splitNot (d := 29) rfl (fun h5 => ?_) (fun h5 => ?_) | refine GT_split (d := 29) rfl (fun h5 => ?_) (fun h5 => ?_) | refine GT_splitNotB (d := 29) rfl (fun h5 => ?_) (fun h5 => ?_) | refine GT_splitB (d := 29) rfl (fun h5 => ?_) (fun h5 => ?_)
          · have hbad : ¬ plOk p k = true := (fun q => by rcases plOk_iff.1 q with q | q; (first | exact h4 q.2 | exact h3 q.1); rw [← Bool.not_eq_true, betw_iff] at h5; exact h5 q.1)
            refine GT_skip rfl rfl rfl rfl rfl (by decide) rfl rfl ?_
            refine GT_skip rfl rfl rfl rfl rfl (by decide) rfl rfl ?_
            refine GT_skip rfl rfl rfl rfl rfl (by decide) rfl rfl ?_
            refine GT_skip rfl rfl rfl rfl rfl (by decide) rfl rfl ?_
            refine GT_skip_ld rfl rfl rfl rfl rfl (by decide) rfl rfl rfl (GR_nil) ?_
            refine GT_skip rfl rfl rfl rfl rfl (by decide) rfl rfl ?_
            refine GT_st rfl rfl rfl rfl (V_pick_t rfl rfl rfl) ?_
            refine GT_st rfl rfl rfl rfl (V_move rfl rfl) ?_
            refine GT_skip rfl rfl rfl rfl rfl (by decide) rfl rfl ?_
            refine GT_skip rfl rfl rfl rfl rfl (by decide) rfl rfl ?_
            refine GT_skip rfl rfl rfl rfl rfl (by decide) rfl rfl ?_
            refine GT_skip rfl rfl rfl rfl rfl (by decide) rfl rfl ?_
            refine GT_skip rfl rfl rfl rfl rfl (by decide) rfl rfl ?_
            refine GT_skip rfl rfl rfl rfl rfl (by decide) rfl rfl ?_
            refine GT_skip rfl rfl rfl rfl rfl (by decide) rfl rfl ?_
            refine GT_skip rfl rfl rfl rfl rfl (by decide) rfl rfl ?_
            refine GT_skip rfl rfl rfl rfl rfl (by decide) rfl rfl ?_
            refine GT_skip rfl rfl rfl rfl rfl (by decide) rfl rfl ?_
            refine GT_st rfl rfl rfl rfl (V_pick_t rfl rfl rfl) ?_
            refine GT_st rfl rfl rfl rfl (V_assign rfl rfl) ?_
            refine GT_nil ?_
            refine GE_cond_t rfl ?_
            refine GE_seq ?_
            refine GE_slots (L' := []) trivial ?_
            refine GE_plain (.st 0 .nil) rfl ?_
            refine GT_st rfl rfl rfl rfl (V_assign rfl rfl) ?_
            refine GT_nil ?_
            refine GE_ret Try.func70 rfl (fun w hw => ⟨?_, hw.nil⟩)
            rw [plCheck_bad (by omega) hkl hbad]
          · skip
            first | refine GT_st_g rfl rfl rfl rfl rfl rfl rfl (V_field rfl rfl fo_53_1) ?_ | refine GT_st_g rfl rfl rfl rfl rfl rfl rfl (V_fieldA rfl rfl fo_53_1) ?_
            refine GT_st_g rfl rfl rfl rfl rfl rfl rfl (V_load rfl rfl ag_3 (CellAt.item rfl)) ?_
            refine GT_st_g rfl rfl rfl rfl rfl rfl rfl (V_move rfl rfl) ?_
            refine GT_st_g rfl rfl rfl rfl rfl rfl rfl (V_sub rfl rfl rfl (wrap_i64 (by omega))) ?_
            refine GT_call0_g rfl rfl rfl rfl rfl rfl rfl rfl rfl rfl rfl rn_38 (fun w hw => C_betw) (GR_nil) ?_
            first | refine GT_st_g rfl rfl rfl rfl rfl rfl rfl (V_not rfl rfl) ?_ | refine GT_st_g rfl rfl rfl rfl rfl rfl rfl (V_notB rfl rfl) ?_
            refine GT_st rfl rfl rfl rfl (V_pick_f rfl rfl rfl) ?_
            refine GT_st rfl rfl rfl rfl (V_move rfl rfl) ?_
            first | refine GT_splitNot (d := 37) rfl (fun h6 => ?_) (fun h6 => ?_) | refine GT_split (d := 37) rfl (fun h6 => ?_) (fun h6 => ?_) | refine GT_splitNotB (d := 37) rfl (fun h6 => ?_) (fun h6 => ?_) | refine GT_splitB (d := 37) rfl (fun h6 => ?_) (fun h6 => ?_)
            · have hbad : ¬ plOk p k = true := (fun q => by rcases plOk_iff.1 q with q | q; (first | exact h4 q.2 | exact h3 q.1); rw [← Bool.not_eq_true, betw_iff] at h6; exact h6 q.2.1)
              refine GT_skip rfl rfl rfl rfl rfl (by decide) rfl rfl ?_
              refine GT_skip rfl rfl rfl rfl rfl (by decide) rfl rfl ?_
              refine GT_skip rfl rfl rfl rfl rfl (by decide) rfl rfl ?_
              refine GT_skip rfl rfl rfl rfl rfl (by decide) rfl rfl ?_
              refine GT_skip rfl rfl rfl rfl rfl (by decide) rfl rfl ?_
              refine GT_skip rfl rfl rfl rfl rfl (by decide) rfl rfl ?_
              refine GT_skip rfl rfl rfl rfl rfl (by decide) rfl rfl ?_
              refine GT_skip rfl rfl rfl rfl rfl (by decide) rfl rfl ?_
              refine GT_skip rfl rfl rfl rfl rfl (by decide) rfl rfl ?_
              refine GT_skip rfl rfl rfl rfl rfl (by decide) rfl rfl ?_
              refine GT_st rfl rfl rfl rfl (V_pick_t rfl rfl rfl) ?_
              refine GT_st rfl rfl rfl rfl (V_assign rfl rfl) ?_
              refine GT_nil ?_
              refine GE_cond_t rfl ?_
              refine GE_seq ?_
              refine GE_slots (L' := []) trivial ?_
              refine GE_plain (.st 0 .nil) rfl ?_
              refine GT_st rfl rfl rfl rfl (V_assign rfl rfl) ?_
              refine GT_nil ?_
              refine GE_ret Try.func70 rfl (fun w hw => ⟨?_, hw.nil⟩)
              rw [plCheck_bad (by omega) hkl hbad]
            · rw [betw_iff] at h5 h6; have hkd := plOk_kind hall (j := (p.getD k default).par.toNat) (by omega)
              refine GT_st_g rfl rfl rfl rfl rfl rfl rfl (V_move rfl rfl) ?_
              first | refine GT_st_g rfl rfl rfl rfl rfl rfl rfl (V_field rfl rfl fo_53_1) ?_ | refine GT_st_g rfl rfl rfl rfl rfl rfl rfl (V_fieldA rfl rfl fo_53_1) ?_
              refine GT_st_g rfl rfl rfl rfl rfl rfl rfl (V_load rfl rfl ag_3 (CellAt.item rfl)) ?_
              refine GT_st_g rfl rfl rfl rfl rfl rfl rfl (V_index rfl rfl rfl Try.underlying36 sz_53 (k := (p.getD k default).par.toNat) (by omega) (by omega) (hp.isSome hkl)) ?_
              first | refine GT_st_g rfl rfl rfl rfl rfl rfl rfl (V_field rfl rfl fo_53_0) ?_ | refine GT_st_g rfl rfl rfl rfl rfl rfl rfl (V_fieldA rfl rfl fo_53_0) ?_
              refine GT_st_g rfl rfl rfl rfl rfl rfl rfl (V_load rfl rfl ag_3 (hp.at0 noM (by omega) rfl)) ?_
              refine GT_st_g rfl rfl rfl rfl rfl rfl rfl (V_add rfl rfl rfl (wrap_i64 (by omega))) ?_
              first | refine GT_st_g rfl rfl rfl rfl rfl rfl rfl (V_field rfl rfl fo_53_0) ?_ | refine GT_st_g rfl rfl rfl rfl rfl rfl rfl (V_fieldA rfl rfl fo_53_0) ?_
              refine GT_st_g rfl rfl rfl rfl rfl rfl rfl (V_load rfl rfl ag_3 (CellAt.item rfl)) ?_
              refine GT_st_g rfl rfl rfl rfl rfl rfl rfl (V_neq rfl rfl rfl) ?_
              refine GT_st rfl rfl rfl rfl (V_pick_f rfl rfl rfl) ?_
              refine GT_st rfl rfl rfl rfl (V_assign rfl rfl) ?_
              refine GT_nil ?_
              first | refine GE_condNot rfl (fun h7 => ?_) (fun h7 => ?_) | refine GE_cond rfl (fun h7 => ?_) (fun h7 => ?_) | refine GE_condNotB rfl (fun h7 => ?_) (fun h7 => ?_) | refine GE_condB rfl (fun h7 => ?_) (fun h7 => ?_)
              · have hbad : ¬ plOk p k = true := (fun q => by rcases plOk_iff.1 q with q | q; (first | exact h4 q.2 | exact h3 q.1); exact h7 q.2.2)
                refine GE_seq ?_
                refine GE_slots (L' := []) trivial ?_
                refine GE_plain (.st 0 .nil) rfl ?_
                refine GT_st rfl rfl rfl rfl (V_assign rfl rfl) ?_
                refine GT_nil ?_
                refine GE_ret Try.func70 rfl (fun w hw => ⟨?_, hw.nil⟩)
                rw [plCheck_bad (by omega) hkl hbad]
              · have hok : plOk p k = true := (plOk_iff.2 (.inr ⟨h5, h6, by omega⟩))
                refine GE_skip ?_
                refine GE_inBlock ?_
                refine GE_inBlock ?_
                refine GE_slots (L' := [(0, _), (8, _), (9, _), (10, _), (20, _), (21, _), (22, _), (30, _), (31, _), (32, _), (33, _), (34, _), (35, _), (38, _), (39, _), (40, _), (41, _), (42, _), (43, _), (44, _), (45, _), (46, _), (47, _)]) ⟨rfl, rfl, rfl, rfl, rfl, rfl, rfl, rfl, rfl, rfl, rfl, rfl, rfl, rfl, rfl, rfl, rfl, rfl, rfl, rfl, rfl, rfl, rfl, trivial⟩ ?_
                refine GE_plain (.st 0 (.ld 1 [] .nil)) rfl ?_
                refine GT_st rfl rfl rfl rfl (V_add rfl rfl rfl (wrap_i64 (by omega))) ?_
                refine GT_ldv rfl rfl rfl rfl rfl (V_move rfl rfl) (GR_nil) ?_
                refine GT_nil ?_
                exact GE_to (ih (k + 1) ⟨by omega, fun j hj => by rcases Nat.lt_or_ge j k with q | q; exact hall j q; obtain rfl : j = k := (by omega); exact hok⟩ (by omega)) ⟨rfl, rfl, rfl, rfl, trivial⟩ HS.nil
      · obtain rfl : k = p.length := (by omega)
        refine GE_exit rfl ?_
        refine GE_seq ?_
        refine GE_slots (L' := []) trivial ?_
        refine GE_plain (.st 0 .nil) rfl ?_
        refine GT_st rfl rfl rfl rfl (V_assign rfl rfl) ?_
        refine GT_nil ?_
        refine GE_ret Try.func70 rfl (fun w hw => ⟨?_, hw.nil⟩)
        rw [plCheck_ok (by omega) hall]
    · exact ⟨Nat.zero_le _, fun j hj => absurd hj (Nat.not_lt_zero _)⟩
theorem dsOk_iff {i : Nat} : dsOk p d i = true ↔ (prevS d i < (d.getD i default).ser ∧ stamp p (d.getD i default).a = true) ∧ stamp p (d.getD i default).b = true := by
  unfold dsOk
  simp only [Bool.and_eq_true, decide_eq_true_eq]
theorem stamp_iff {n : Int} : stamp p n = true ↔ (1 ≤ n ∧ n ≤ p.length) ∧ (p.getD (n - 1).toNat default).kind = 3 := by
  unfold stamp
  simp only [Bool.and_eq_true, decide_eq_true_eq, betw_iff]
theorem dsCheck_bad (h0 : plCheck p = 0) (h : d.length ≤ 200) {i : Nat} (hi : i < d.length) (h2 : ¬ dsOk p d i = true) : dsCheck p d = 2 := by
  unfold dsCheck; rw [if_pos h0, if_neg (by omega), if_neg (fun q => h2 (q i hi))]
def stOf (x : Dsc) (j : Nat) : Int := if j = 0 then x.a else x.b

theorem C_listen_CheckDiscs (hp : RdL w 7 ePlt A p) (hwf : ∀ x ∈ p, Plt.wf x) (hd : RdL w 7 eDsc A2 d) (hdf : ∀ x ∈ d, Dsc.wf x) :
    Con0 Try.prog 62 [.slice A p.length c, .slice A2 d.length c2] w (I (dsCheck p d)) := by
  refine Ret_of (vs := [_, _]) hm none' Try.func62 rfl Try.ntmps62 rfl ?_
  dsimp only [slotsOf]
  refine GE_seq ?_
  refine GE_plain (.st 0 .nil) rfl ?_
  refine GT_st rfl rfl rfl rfl (V_assign rfl rfl) ?_
  refine GT_nil ?_
  refine GE_seq ?_
  refine GE_seq ?_
  refine GE_plain (.st 0 (.ld 1 [] (.st 2 .nil))) rfl ?_
  refine GT_st rfl rfl rfl rfl (V_move rfl rfl) ?_
  refine GT_call0 rfl rfl rfl rfl rfl rfl rfl rfl rn_70 (fun w hw => C_listen_CheckPlates (hp.sh hw) hwf) (GR_nil) ?_
  refine GT_st rfl rfl rfl rfl (V_assign rfl rfl) ?_
  refine GT_nil ?_
  refine GE_seq ?_
  refine GE_plain (.st 0 (.st 1 .nil)) rfl ?_
  refine GT_st rfl rfl rfl rfl (V_move rfl rfl) ?_
  refine GT_st rfl rfl rfl rfl (V_neq rfl rfl rfl) ?_
  refine GT_nil ?_
  first | refine GE_condNot rfl (fun h0 => ?_) (fun h0 => ?_) | refine GE_cond rfl (fun h0 => ?_) (fun h0 => ?_) | refine GE_condNotB rfl (fun h0 => ?_) (fun h0 => ?_) | refine GE_condB rfl (fun h0 => ?_) (fun h0 => ?_)
  · skip
    refine GE_seq ?_
    refine GE_slots (L' := [(5, _)]) ⟨rfl, trivial⟩ ?_
    refine GE_plain (.st 0 (.st 1 .nil)) rfl ?_
    refine GT_st rfl rfl rfl rfl (V_move rfl rfl) ?_
    refine GT_st rfl rfl rfl rfl (V_assign rfl rfl) ?_
    refine GT_nil ?_
    refine GE_ret Try.func62 rfl (fun w hw => ⟨?_, hw.nil⟩)
    unfold dsCheck; rw [if_neg h0]
  · obtain ⟨hpl, hpo⟩ := plCheck_zero.1 h0
    refine GE_skip ?_
    refine GE_seq ?_
    refine GE_seq ?_
    refine GE_slots (L' := [(0, _), (1, _)]) ⟨rfl, rfl, trivial⟩ ?_
    refine GE_plain (.st 0 (.st 1 (.st 2 .nil))) rfl ?_
    refine GT_st rfl rfl rfl rfl (V_move rfl rfl) ?_
    refine GT_st rfl rfl rfl rfl (V_len rfl Try.underlying37 rfl) ?_
    refine GT_st rfl rfl rfl rfl (V_gtr rfl rfl rfl) ?_
    refine GT_nil ?_
    first | refine GE_condNot rfl (fun h1 => ?_) (fun h1 => ?_) | refine GE_cond rfl (fun h1 => ?_) (fun h1 => ?_) | refine GE_condNotB rfl (fun h1 => ?_) (fun h1 => ?_) | refine GE_condB rfl (fun h1 => ?_) (fun h1 => ?_)
    · skip
      refine GE_seq ?_
      refine GE_slots (L' := []) trivial ?_
      refine GE_plain (.st 0 .nil) rfl ?_
      refine GT_st rfl rfl rfl rfl (V_assign rfl rfl) ?_
      refine GT_nil ?_
      refine GE_ret Try.func62 rfl (fun w hw => ⟨?_, hw.nil⟩)
      unfold dsCheck; rw [if_pos h0, if_pos (by omega)]
    · skip
      refine GE_skip ?_
      refine GE_seq ?_
      refine GE_plain (.st 0 .nil) rfl ?_
      refine GT_st rfl rfl rfl rfl (V_assign rfl rfl) ?_
      refine GT_nil ?_
      refine GE_seq ?_
      refine GE_seq ?_
      refine GE_plain (.st 0 (.st 1 (.st 2 .nil))) rfl ?_
      refine GT_st rfl rfl rfl rfl (V_move rfl rfl) ?_
      refine GT_st rfl rfl rfl rfl (V_len rfl Try.underlying37 rfl) ?_
      refine GT_st rfl rfl rfl rfl (V_move rfl rfl) ?_
      refine GT_nil ?_
      refine GE_block ?_
      refine GE_to (GE_loop (ι := Nat) (fun k => d.length - k) (fun k => [(0, .slice A p.length c), (6, I (prevS d k)), (19, .slice A2 d.length c2), (20, I d.length), (21, I k)]) (fun k => []) (fun k => k ≤ d.length ∧ ∀ j, j < k → dsOk p d j = true) ?_ 0 ?_) ⟨rfl, rfl, rfl, rfl, rfl, trivial⟩ HS.nil
      · rintro k ⟨hk, hall⟩ ih
        refine GE_seq ?_
        refine GE_plain (.st 0 .nil) rfl ?_
        refine GT_st rfl rfl rfl rfl (V_lss rfl rfl rfl) ?_
        refine GT_nil ?_
        refine GE_seq ?_
        first | refine GE_condNot rfl (fun h2 => ?_) (fun h2 => ?_) | refine GE_cond rfl (fun h2 => ?_) (fun h2 => ?_) | refine GE_condNotB rfl (fun h2 => ?_) (fun h2 => ?_) | refine GE_condB rfl (fun h2 => ?_) (fun h2 => ?_)
        · have hkl : k < d.length := (by omega); obtain ⟨hw1, hw2, hw3⟩ := hdf (d.getD k default) (by simp [List.getD, hkl]); unfold I64 at hw1 hw2 hw3
          refine GE_skip ?_
          refine GE_seq ?_
          refine GE_block ?_
          refine GE_seq ?_
          refine GE_plain (.st 0 (.st 1 (.ld 2 [] (.ld 3 [] .nil)))) rfl ?_
          refine GT_st rfl rfl rfl rfl (V_index rfl rfl rfl Try.underlying37 sz_50 (k := k) rfl hkl (hd.isSome hkl)) ?_
          refine GT_st rfl rfl rfl rfl (V_loadN (vs := [_, _, _, _, _, _, _]) rfl rfl ag_50 sz_50 rfl (hd.ats noM hkl)) ?_
          refine GT_alloc rfl rfl rfl rfl rfl zc_50 (fun _ => GR_nil) (fun b8 => ?_)
          refine GT_store (vs := [_, _, _, _, _, _, _]) (l' := [_, _, _, _, _, _, _]) rfl rfl rfl rfl rfl rfl rfl sz_50 rfl rfl (Nat.le_of_ble_eq_true rfl) rfl (GR_nil) ?_
          refine GT_nil ?_
          refine GE_seq ?_
          refine GE_seq ?_
          refine GE_plain (.st 0 (.st 1 (.st 2 (.st 3 .nil)))) rfl ?_
          first | refine GT_st rfl rfl rfl rfl (V_field rfl rfl fo_50_0) ?_ | refine GT_st rfl rfl rfl rfl (V_fieldA rfl rfl fo_50_0) ?_
          refine GT_st rfl rfl rfl rfl (V_load rfl rfl ag_2 (CellAt.item rfl)) ?_
          refine GT_st rfl rfl rfl rfl (V_move rfl rfl) ?_
          refine GT_st rfl rfl rfl rfl (V_leq rfl rfl rfl) ?_
          refine GT_nil ?_
          first | refine GE_condNot rfl (fun h3 => ?_) (fun h3 => ?_) | refine GE_cond rfl (fun h3 => ?_) (fun h3 => ?_) | refine GE_condNotB rfl (fun h3 => ?_) (fun h3 => ?_) | refine GE_condB rfl (fun h3 => ?_) (fun h3 => ?_)
          · have hbad : ¬ dsOk p d k = true := (fun q => by have := (dsOk_iff.1 q).1.1; omega)
            refine GE_seq ?_
            refine GE_slots (L' := []) trivial ?_
            refine GE_plain (.st 0 .nil) rfl ?_
            refine GT_st rfl rfl rfl rfl (V_assign rfl rfl) ?_
            refine GT_nil ?_
            refine GE_ret Try.func62 rfl (fun w hw => ⟨?_, hw.nil⟩)
            rw [dsCheck_bad h0 (by omega) hkl hbad]
          · skip
            refine GE_skip ?_
            refine GE_seq ?_
            refine GE_slots (L' := [(0, _), (8, _), (19, _), (20, _), (21, _)]) ⟨rfl, rfl, rfl, rfl, rfl, trivial⟩ ?_
            refine GE_plain (.st 0 (.st 1 (.st 2 .nil))) rfl ?_
            first | refine GT_st rfl rfl rfl rfl (V_field rfl rfl fo_50_0) ?_ | refine GT_st rfl rfl rfl rfl (V_fieldA rfl rfl fo_50_0) ?_
            refine GT_st rfl rfl rfl rfl (V_load rfl rfl ag_2 (CellAt.item rfl)) ?_
            refine GT_st rfl rfl rfl rfl (V_assign rfl rfl) ?_
            refine GT_nil ?_
            refine GE_seq ?_
            refine GE_plain (.st 0 (.st 1 (.st 2 (.st 3 (.st 4 (.st 5 .nil)))))) rfl ?_
            first | refine GT_st rfl rfl rfl rfl (V_field rfl rfl fo_50_1) ?_ | refine GT_st rfl rfl rfl rfl (V_fieldA rfl rfl fo_50_1) ?_
            refine GT_st rfl rfl rfl rfl (V_load rfl rfl ag_2 (CellAt.item rfl)) ?_
            first | refine GT_st rfl rfl rfl rfl (V_field rfl rfl fo_50_2) ?_ | refine GT_st rfl rfl rfl rfl (V_fieldA rfl rfl fo_50_2) ?_
            refine GT_st rfl rfl rfl rfl (V_load rfl rfl ag_2 (CellAt.item rfl)) ?_
            refine GT_st rfl rfl rfl rfl (V_build (vs := [_, _]) rfl rfl zc_117 pl_117 sa_117 rfl) ?_
            refine GT_st rfl rfl rfl rfl (V_move rfl rfl) ?_
            refine GT_nil ?_
            refine GE_block ?_
            refine GE_to (GE_loop (ι := Nat) (fun j => 2 - j) (fun j => [(0, .slice A p.length c), (6, I (prevS d (k + 1))), (19, .slice A2 d.length c2), (20, I d.length), (21, I k), (35, .agg #[I (d.getD k default).a, I (d.getD k default).b]), (36, I j)]) (fun j => []) (fun j => j ≤ 2 ∧ ∀ q, q < j → stamp p (stOf (d.getD k default) q) = true) ?_ 0 ?_) ⟨rfl, rfl, rfl, rfl, rfl, rfl, rfl, trivial⟩ HS.nil
            · rintro j ⟨hj, hst⟩ ih2
              refine GE_seq ?_
              refine GE_plain (.st 0 .nil) rfl ?_
              refine GT_st rfl rfl rfl rfl (V_lss rfl rfl rfl) ?_
              refine GT_nil ?_
              refine GE_seq ?_
              first | refine GE_condNot rfl (fun h4 => ?_) (fun h4 => ?_) | refine GE_cond rfl (fun h4 => ?_) (fun h4 => ?_) | refine GE_condNotB rfl (fun h4 => ?_) (fun h4 => ?_) | refine GE_condB rfl (fun h4 => ?_) (fun h4 => ?_)
              · have hj2 : j < 2 := (by omega); have hwj : -9223372036854775808 ≤ stOf (d.getD k default) j ∧ stOf (d.getD k default) j ≤ 9223372036854775807 := (by unfold stOf; split <;> assumption)
                refine GE_skip ?_
                refine GE_seq ?_
                refine GE_block ?_
                refine GE_seq ?_
                refine GE_plain (.st 0 (.st 1 .nil)) rfl ?_
                refine GT_st rfl rfl rfl rfl (V_indexAgg rfl rfl rfl Try.underlying117 ag_2 sz_2 (kk := j) (v := I (stOf (d.getD k default) j)) rfl (by omega) (by rcases (show j = 0 ∨ j = 1 by omega) with rfl | rfl <;> rfl)) ?_
                refine GT_st rfl rfl rfl rfl (V_assign rfl rfl) ?_
                refine GT_nil ?_
                refine GE_seq ?_
                refine GE_plain (.st 0 (.st 1 (.st 2 (.ld 3 [] (.st 4 (.st 5 (.st 6 (.st 7 (.st 8 (.st 9 (.st 10 (.st 11 (.st 12 (.st 13 .nil)))))))))))))) rfl ?_
                refine GT_st rfl rfl rfl rfl (V_move rfl rfl) ?_
                refine GT_st rfl rfl rfl rfl (V_move rfl rfl) ?_
                refine GT_st rfl rfl rfl rfl (V_len rfl Try.underlying36 rfl) ?_
                refine GT_call0 rfl rfl rfl rfl rfl rfl rfl rfl rn_58 (fun w hw => C_betw64) (GR_nil) ?_
                first | refine GT_st rfl rfl rfl rfl (V_not rfl rfl) ?_ | refine GT_st rfl rfl rfl rfl (V_notB rfl rfl) ?_
                refine GT_st rfl rfl rfl rfl (V_move rfl rfl) ?_
                first | refine GT_splitNot (d := 44) rfl (fun h5 => ?_) (fun h5 => ?_) | refine GT_split (d := 44) rfl (fun h5 => ?_) (fun h5 => ?_) | refine GT_splitNotB (d := 44) rfl (fun h5 => ?_) (fun h5 => ?_) | refine GT_splitB (d := 44) rfl (fun h5 => ?_) (fun h5 => ?_)
                · have hnst : ¬ stamp p (stOf (d.getD k default) j) = true := (fun q => by rw [← Bool.not_eq_true, betw_iff] at h5; exact h5 (stamp_iff.1 q).1)
                  refine GT_skip rfl rfl rfl rfl rfl (by decide) rfl rfl ?_
                  refine GT_skip rfl rfl rfl rfl rfl (by decide) rfl rfl ?_
                  refine GT_skip rfl rfl rfl rfl rfl (by decide) rfl rfl ?_
                  refine GT_skip rfl rfl rfl rfl rfl (by decide) rfl rfl ?_
                  refine GT_skip rfl rfl rfl rfl rfl (by decide) rfl rfl ?_
                  refine GT_skip rfl rfl rfl rfl rfl (by decide) rfl rfl ?_
                  refine GT_skip rfl rfl rfl rfl rfl (by decide) rfl rfl ?_
                  refine GT_st rfl rfl rfl rfl (V_pick_t rfl rfl rfl) ?_
                  refine GT_nil ?_
                  refine GE_cond_t rfl ?_
                  refine GE_seq ?_
                  refine GE_slots (L' := []) trivial ?_
                  have hbad : ¬ dsOk p d k = true := (fun q => by have := dsOk_iff.1 q; rcases (show j = 0 ∨ j = 1 by omega) with rfl | rfl; exact hnst this.1.2; exact hnst this.2)
                  refine GE_plain (.st 0 .nil) rfl ?_
                  refine GT_st rfl rfl rfl rfl (V_assign rfl rfl) ?_
                  refine GT_nil ?_
                  refine GE_ret Try.func62 rfl (fun w hw => ⟨?_, hw.nil⟩)
                  rw [dsCheck_bad h0 (by omega) hkl hbad]
                · rw [betw_iff] at h5
                  refine GT_st_g rfl rfl rfl rfl rfl rfl rfl (V_move rfl rfl) ?_
                  refine GT_st_g rfl rfl rfl rfl rfl rfl rfl (V_move rfl rfl) ?_
                  refine GT_st_g rfl rfl rfl rfl rfl rfl rfl (V_sub rfl rfl rfl (wrap_i64 (by omega))) ?_
                  refine GT_st_g rfl rfl rfl rfl rfl rfl rfl (V_index rfl rfl rfl Try.underlying36 sz_53 (k := (stOf (d.getD k default) j - 1).toNat) (by omega) (by omega) (hp.isSome (k := (stOf (d.getD k default) j - 1).toNat) (by omega))) ?_
                  first | refine GT_st_g rfl rfl rfl rfl rfl rfl rfl (V_field rfl rfl fo_53_0) ?_ | refine GT_st_g rfl rfl rfl rfl rfl rfl rfl (V_fieldA rfl rfl fo_53_0) ?_
                  refine GT_st_g rfl rfl rfl rfl rfl rfl rfl (V_load rfl rfl ag_3 (hp.at0 noM (by omega) rfl)) ?_
                  refine GT_st_g rfl rfl rfl rfl rfl rfl rfl (V_neq rfl rfl rfl) ?_
                  refine GT_st rfl rfl rfl rfl (V_pick_f rfl rfl rfl) ?_
                  refine GT_nil ?_
                  first | refine GE_condNot rfl (fun h6 => ?_) (fun h6 => ?_) | refine GE_cond rfl (fun h6 => ?_) (fun h6 => ?_) | refine GE_condNotB rfl (fun h6 => ?_) (fun h6 => ?_) | refine GE_condB rfl (fun h6 => ?_) (fun h6 => ?_)
                  · have hnst : ¬ stamp p (stOf (d.getD k default) j) = true := (fun q => h6 (stamp_iff.1 q).2)
                    refine GE_seq ?_
                    refine GE_slots (L' := []) trivial ?_
                    have hbad : ¬ dsOk p d k = true := (fun q => by have := dsOk_iff.1 q; rcases (show j = 0 ∨ j = 1 by omega) with rfl | rfl; exact hnst this.1.2; exact hnst this.2)
                    refine GE_plain (.st 0 .nil) rfl ?_
                    refine GT_st rfl rfl rfl rfl (V_assign rfl rfl) ?_
                    refine GT_nil ?_
                    refine GE_ret Try.func62 rfl (fun w hw => ⟨?_, hw.nil⟩)
                    rw [dsCheck_bad h0 (by omega) hkl hbad]
                  · have hsj : stamp p (stOf (d.getD k default) j) = true := stamp_iff.2 ⟨h5, h6⟩
                    refine GE_skip ?_
                    refine GE_inBlock ?_
                    refine GE_slots (L' := [(0, _), (6, _), (19, _), (20, _), (21, _), (35, _), (36, _), (45, _), (46, _), (47, _), (48, _), (49, _), (50, _), (51, _)]) ⟨rfl, rfl, rfl, rfl, rfl, rfl, rfl, rfl, rfl, rfl, rfl, rfl, rfl, rfl, trivial⟩ ?_
                    refine GE_plain (.st 0 (.ld 1 [] .nil)) rfl ?_
                    refine GT_st rfl rfl rfl rfl (V_add rfl rfl rfl (wrap_i64 (by omega))) ?_
                    refine GT_ldv rfl rfl rfl rfl rfl (V_move rfl rfl) (GR_nil) ?_
                    refine GT_nil ?_
                    exact GE_to (ih2 (j + 1) ⟨by omega, fun q hq => by rcases Nat.lt_or_ge q j with r | r; exact hst q r; obtain rfl : q = j := (by omega); exact hsj⟩ (by omega)) ⟨rfl, rfl, rfl, rfl, rfl, rfl, rfl, trivial⟩ HS.nil
              · have hok : dsOk p d k = true := (dsOk_iff.2 ⟨⟨by omega, hst 0 (by omega)⟩, hst 1 (by omega)⟩)
                refine GE_exit rfl ?_
                refine GE_inBlock ?_
                refine GE_plain (.st 0 (.ld 1 [] .nil)) rfl ?_
                refine GT_st rfl rfl rfl rfl (V_add rfl rfl rfl (wrap_i64 (by omega))) ?_
                refine GT_ldv rfl rfl rfl rfl rfl (V_move rfl rfl) (GR_nil) ?_
                refine GT_nil ?_
                exact GE_to (ih (k + 1) ⟨by omega, fun j hj => by rcases Nat.lt_or_ge j k with q | q; exact hall j q; obtain rfl : j = k := (by omega); exact hok⟩ (by omega)) ⟨rfl, rfl, rfl, rfl, rfl, trivial⟩ HS.nil
            · exact ⟨Nat.zero_le _, fun j hj => absurd hj (Nat.not_lt_zero _)⟩
        · obtain rfl : k = d.length := (by omega)
          refine GE_exit rfl ?_
          refine GE_seq ?_
          refine GE_slots (L' := []) trivial ?_
          refine GE_plain (.st 0 .nil) rfl ?_
          refine GT_st rfl rfl rfl rfl (V_assign rfl rfl) ?_
          refine GT_nil ?_
          refine GE_ret Try.func62 rfl (fun w hw => ⟨?_, hw.nil⟩)
          rw [dsCheck_zero.2 ⟨h0, by omega, hall⟩]
      · exact ⟨Nat.zero_le _, fun j hj => absurd hj (Nat.not_lt_zero _)⟩

/-- a room, where it lies -/
def roomC (A A3 A4 : Option Addr) (np n c c3 c4 : Nat) : List Value := [.slice A np c, .slice A3 n c3, .slice A4 n c4]
theorem C_newRoom_err (hp : RdL w 7 ePlt A p) (hwf : ∀ x ∈ p, Plt.wf x) (hd : RdL w 7 eDsc A2 d) (hdf : ∀ x ∈ d, Dsc.wf x) (he : beginE p d side ≠ 0) :
    Con0 Try.prog 47 [.slice A p.length c, .slice A2 d.length c2, I side] w (.tuple #[.pointer none, I (beginE p d side)]) := by
  refine Ret_of (vs := [_, _, _]) hm none' Try.func47 rfl Try.ntmps47 rfl ?_
  dsimp only [slotsOf]
  refine GE_seq ?_
  refine GE_plain (.st 0 (.st 1 .nil)) rfl ?_
  refine GT_st rfl rfl rfl rfl (V_assign rfl rfl) ?_
  refine GT_st rfl rfl rfl rfl (V_assign rfl rfl) ?_
  refine GT_nil ?_
  refine GE_seq ?_
  refine GE_seq ?_
  refine GE_plain (.st 0 (.st 1 (.ld 2 [] (.st 3 .nil)))) rfl ?_
  refine GT_st rfl rfl rfl rfl (V_move rfl rfl) ?_
  refine GT_st rfl rfl rfl rfl (V_move rfl rfl) ?_
  refine GT_call0 rfl rfl rfl rfl rfl rfl rfl rfl rn_62 (fun w hw => C_listen_CheckDiscs (hp.sh hw) hwf (hd.sh hw) hdf) (GR_nil) ?_
  refine GT_st rfl rfl rfl rfl (V_assign rfl rfl) ?_
  refine GT_nil ?_
  refine GE_seq ?_
  refine GE_slots (L' := [(0, _), (1, _), (2, _), (8, _)]) ⟨rfl, rfl, rfl, rfl, trivial⟩ ?_
  refine GE_plain (.st 0 (.st 1 .nil)) rfl ?_
  refine GT_st rfl rfl rfl rfl (V_move rfl rfl) ?_
  refine GT_st rfl rfl rfl rfl (V_neq rfl rfl rfl) ?_
  refine GT_nil ?_
  first | refine GE_condNot rfl (fun h0 => ?_) (fun h0 => ?_) | refine GE_cond rfl (fun h0 => ?_) (fun h0 => ?_) | refine GE_condNotB rfl (fun h0 => ?_) (fun h0 => ?_) | refine GE_condB rfl (fun h0 => ?_) (fun h0 => ?_)
  · have e : beginE p d side = dsCheck p d := if_neg h0
    refine GE_seq ?_
    refine GE_slots (L' := [(8, _)]) ⟨rfl, trivial⟩ ?_
    refine GE_plain (.st 0 (.st 1 (.st 2 .nil))) rfl ?_
    refine GT_st rfl rfl rfl rfl (V_move rfl rfl) ?_
    refine GT_st rfl rfl rfl rfl (V_assign rfl rfl) ?_
    refine GT_st rfl rfl rfl rfl (V_assign rfl rfl) ?_
    refine GT_nil ?_
    refine GE_ret Try.func47 ⟨_, _, rfl, rfl, rfl⟩ (fun w hw => ⟨?_, hw.nil⟩)
    rw [e]
  · have e : beginE p d side = _ := if_pos h0
    refine GE_skip ?_
    refine GE_seq ?_
    refine GE_seq ?_
    refine GE_plain (.st 0 (.st 1 (.st 2 (.st 3 (.st 4 (.st 5 .nil)))))) rfl ?_
    refine GT_st rfl rfl rfl rfl (V_move rfl rfl) ?_
    refine GT_st rfl rfl rfl rfl (V_neq rfl rfl rfl) ?_
    refine GT_st rfl rfl rfl rfl (V_move rfl rfl) ?_
    first | refine GT_splitNot (d := 20) rfl (fun h1 => ?_) (fun h1 => ?_) | refine GT_split (d := 20) rfl (fun h1 => ?_) (fun h1 => ?_) | refine GT_splitNotB (d := 20) rfl (fun h1 => ?_) (fun h1 => ?_) | refine GT_splitB (d := 20) rfl (fun h1 => ?_) (fun h1 => ?_)
    · skip
      refine GT_st_g rfl rfl rfl rfl rfl rfl rfl (V_move rfl rfl) ?_
      refine GT_st_g rfl rfl rfl rfl rfl rfl rfl (V_neq rfl rfl rfl) ?_
      refine GT_st rfl rfl rfl rfl (V_pick_t rfl rfl rfl) ?_
      refine GT_nil ?_
      first | refine GE_condNot rfl (fun h2 => ?_) (fun h2 => ?_) | refine GE_cond rfl (fun h2 => ?_) (fun h2 => ?_) | refine GE_condNotB rfl (fun h2 => ?_) (fun h2 => ?_) | refine GE_condB rfl (fun h2 => ?_) (fun h2 => ?_)
      · rw [if_neg (by omega)] at e
        refine GE_seq ?_
        refine GE_slots (L' := []) trivial ?_
        refine GE_plain (.st 0 (.st 1 .nil)) rfl ?_
        refine GT_st rfl rfl rfl rfl (V_assign rfl rfl) ?_
        refine GT_st rfl rfl rfl rfl (V_assign rfl rfl) ?_
        refine GT_nil ?_
        refine GE_ret Try.func47 ⟨_, _, rfl, rfl, rfl⟩ (fun w hw => ⟨?_, hw.nil⟩)
        rw [e]
      · exact absurd (by rw [e, if_pos (.inr h2)]) he
    · exact absurd (by rw [e, if_pos (.inl h1)]) he
set_option maxRecDepth 10000 in
theorem C_newRoom_ok (hp : RdL w 7 ePlt A p) (hwf : ∀ x ∈ p, Plt.wf x) (hd : RdL w 7 eDsc A2 d) (hdf : ∀ x ∈ d, Dsc.wf x) (hR : Room p d side) :
    Con Try.prog 47 [.slice A p.length c, .slice A2 d.length c2, I side] w (fun y : Nat × (Option Addr × Nat × Items) × (Option Addr × Nat × Items) => Own 1 2 eI (serS d) (.slice y.2.1.1 (serS d).length y.2.1.2.1) y.2.1.2.2 ∧ Own 1 3 eI (stmS d side) (.slice y.2.2.1 (stmS d side).length y.2.2.2.1) y.2.2.2.2)
      (fun y => .tuple #[ptr y.1 0, I 0]) (fun y => (y.1, blk (roomC A y.2.1.1 y.2.2.1 p.length d.length c y.2.1.2.1 y.2.2.2.1) 101) :: (y.2.1.2.2 ++ y.2.2.2.2)) := by
  have he := beginE_zero.2 hR
  have hl1 := serS_len d
  have hl2 := stmS_len d side
  have hdl := hR.dl
  have hts : ∀ k, k ≤ d.length → ((serS d).take k).length = k := fun k hk => by rw [List.length_take]; omega
  have htm : ∀ k, k ≤ d.length → ((stmS d side).take k).length = k := fun k hk => by rw [List.length_take]; omega
  refine Ret_of (vs := [_, _, _]) hm none' Try.func47 rfl Try.ntmps47 rfl ?_
  dsimp only [slotsOf]
  refine GE_seq ?_
  refine GE_plain (.st 0 (.st 1 .nil)) rfl ?_
  refine GT_st rfl rfl rfl rfl (V_assign rfl rfl) ?_
  refine GT_st rfl rfl rfl rfl (V_assign rfl rfl) ?_
  refine GT_nil ?_
  refine GE_seq ?_
  refine GE_seq ?_
  refine GE_plain (.st 0 (.st 1 (.ld 2 [] (.st 3 .nil)))) rfl ?_
  refine GT_st rfl rfl rfl rfl (V_move rfl rfl) ?_
  refine GT_st rfl rfl rfl rfl (V_move rfl rfl) ?_
  refine GT_call0 rfl rfl rfl rfl rfl rfl rfl rfl rn_62 (fun w hw => C_listen_CheckDiscs (hp.sh hw) hwf (hd.sh hw) hdf) (GR_nil) ?_
  refine GT_st rfl rfl rfl rfl (V_assign rfl rfl) ?_
  refine GT_nil ?_
  refine GE_seq ?_
  refine GE_slots (L' := [(0, _), (1, _), (2, _), (8, _)]) ⟨rfl, rfl, rfl, rfl, trivial⟩ ?_
  refine GE_plain (.st 0 (.st 1 .nil)) rfl ?_
  refine GT_st rfl rfl rfl rfl (V_move rfl rfl) ?_
  refine GT_st rfl rfl rfl rfl (V_neq rfl rfl rfl) ?_
  refine GT_nil ?_
  first | refine GE_condNot rfl (fun h0 => ?_) (fun h0 => ?_) | refine GE_cond rfl (fun h0 => ?_) (fun h0 => ?_) | refine GE_condNotB rfl (fun h0 => ?_) (fun h0 => ?_) | refine GE_condB rfl (fun h0 => ?_) (fun h0 => ?_)
  · exact absurd (dsCheck_zero.2 ⟨plCheck_zero.2 ⟨hR.pl, hR.plok⟩, hR.dl, hR.dsok⟩) h0
  · skip
    refine GE_skip ?_
    refine GE_cut (ι := Unit) (fun u => [(0, .slice A p.length c), (1, .slice A2 d.length c2), (2, I side)]) (fun u => []) (fun u => True) ?_ (fun hk6 => ?_)
    · intro u _
      refine GE_seq ?_
      refine GE_plain (.st 0 (.st 1 (.ld 2 [] (.st 3 .nil)))) rfl ?_
      refine GT_st rfl rfl rfl rfl (V_move rfl rfl) ?_
      refine GT_st rfl rfl rfl rfl (V_build (vs := [_, _, _]) rfl rfl zc_101 pl_101 sa_101 rfl) ?_
      refine GT_box (z := [_, _, _]) rfl rfl rfl rfl rfl rfl rfl (fun _ => GR_nil) (fun b26 => ?_)
      refine GT_st rfl rfl rfl rfl (V_assign rfl rfl) ?_
      refine GT_nil ?_
      refine GE_seq ?_
      refine GE_seq ?_
      refine GE_slots (L' := [(1, _), (2, _), (9, _)]) ⟨rfl, rfl, rfl, trivial⟩ ?_
      refine GE_plain (.st 0 (.st 1 (.st 2 .nil))) rfl ?_
      refine GT_st rfl rfl rfl rfl (V_move rfl rfl) ?_
      refine GT_st rfl rfl rfl rfl (V_len rfl Try.underlying37 rfl) ?_
      refine GT_st rfl rfl rfl rfl (V_move rfl rfl) ?_
      refine GT_nil ?_
      refine GE_block ?_
      refine GE_to (GE_loop (ι := Nat × (Option Addr × Nat × Items) × (Option Addr × Nat × Items)) (fun x => d.length - x.1) (fun x => [(2, I side), (9, ptr b26 0), (27, .slice A2 d.length c2), (28, I d.length), (29, I x.1)]) (fun x => (b26, blk [.slice A p.length c, .slice x.2.1.1 ((serS d).take x.1).length x.2.1.2.1, .slice x.2.2.1 ((stmS d side).take x.1).length x.2.2.2.1] 101) :: (x.2.1.2.2 ++ x.2.2.2.2)) (fun x => x.1 ≤ d.length ∧ Own 1 2 eI ((serS d).take x.1) (.slice x.2.1.1 ((serS d).take x.1).length x.2.1.2.1) x.2.1.2.2 ∧ Own 1 3 eI ((stmS d side).take x.1) (.slice x.2.2.1 ((stmS d side).take x.1).length x.2.2.2.1) x.2.2.2.2) ?_ (0, (none, 0, []), (none, 0, [])) ?_) ⟨rfl, rfl, rfl, rfl, rfl, trivial⟩ (HS.cons rfl (HS.chunk (I := []) HS.nil))
      · rintro ⟨k, ⟨As, cs, Is⟩, Am, cm, Im⟩ ⟨hk, hO1, hO2⟩ ih; dsimp only at hk hO1 hO2 ih ⊢
        refine GE_seq ?_
        refine GE_plain (.st 0 .nil) rfl ?_
        refine GT_st rfl rfl rfl rfl (V_lss rfl rfl rfl) ?_
        refine GT_nil ?_
        refine GE_seq ?_
        first | refine GE_condNot rfl (fun h3 => ?_) (fun h3 => ?_) | refine GE_cond rfl (fun h3 => ?_) (fun h3 => ?_) | refine GE_condNotB rfl (fun h3 => ?_) (fun h3 => ?_) | refine GE_condB rfl (fun h3 => ?_) (fun h3 => ?_)
        · have hkl : k < d.length := (by omega); have hst := ofS_in (side := side) hR.dsok hkl; have hpl := hR.pl; have e1 : (serS d).take k ++ [(d.getD k default).ser] = (serS d).take (k + 1) := (by rw [List.take_succ_eq_append_getElem (by omega), ← serS_get hkl]; simp [List.getD, hl1, hkl]); have e2 : (stmS d side).take k ++ [ofS (d.getD k default) side] = (stmS d side).take (k + 1) := (by rw [List.take_succ_eq_append_getElem (by omega), ← stmS_get hkl]; simp [List.getD, hl2, hkl]); have hk1 := hts k hk; have hk2 := htm k hk
          refine GE_skip ?_
          refine GE_seq ?_
          refine GE_block ?_
          refine GE_seq ?_
          refine GE_plain (.st 0 (.st 1 (.ld 2 [] (.ld 3 [] .nil)))) rfl ?_
          refine GT_st rfl rfl rfl rfl (V_index rfl rfl rfl Try.underlying37 sz_50 (k := k) rfl hkl (hd.isSome hkl)) ?_
          refine GT_st rfl rfl rfl rfl (V_loadN (vs := [_, _, _, _, _, _, _]) rfl rfl ag_50 sz_50 rfl (hd.ats noM hkl)) ?_
          refine GT_alloc rfl rfl rfl rfl rfl zc_50 (fun _ => GR_nil) (fun b11 => ?_)
          refine GT_store (vs := [_, _, _, _, _, _, _]) (l' := [_, _, _, _, _, _, _]) rfl rfl rfl rfl rfl rfl rfl sz_50 rfl rfl (Nat.le_of_ble_eq_true rfl) rfl (GR_nil) ?_
          refine GT_nil ?_
          refine GE_seq ?_
          refine GE_drawn (.st 0 (.st 1 (.st 2 (.st 3 (.st 4 (.st 5 (.st 6 (.ld 7 [0, 1, 2, 3, 4] (.ld 8 [0] (.st 9 (.st 10 (.ld 11 [] .nil)))))))))))) [7, 8, 11] (by decide +kernel) ?_
          refine GT_st rfl rfl rfl rfl (V_move rfl rfl) ?_
          refine GT_st rfl rfl rfl rfl (V_move rfl rfl) ?_
          first | refine GT_st rfl rfl rfl rfl (V_nilCheck rfl rfl) ?_ | refine GT_st rfl rfl rfl rfl (V_nilCheck_func rfl rfl) ?_ | refine GT_st rfl rfl rfl rfl (V_nilCheck_yield rfl rfl) ?_
          first | refine GT_st rfl rfl rfl rfl (V_field rfl rfl fo_101_1) ?_ | refine GT_st rfl rfl rfl rfl (V_fieldA rfl rfl fo_101_1) ?_
          refine GT_st rfl rfl rfl rfl (V_load rfl rfl ag_42 (CellAt.item rfl)) ?_
          first | refine GT_st rfl rfl rfl rfl (V_field rfl rfl fo_50_0) ?_ | refine GT_st rfl rfl rfl rfl (V_fieldA rfl rfl fo_50_0) ?_
          refine GT_st rfl rfl rfl rfl (V_load rfl rfl ag_2 (CellAt.item rfl)) ?_
          refine GT_buildSlice (z := [_]) rfl rfl rfl rfl rfl Try.underlying42 zc_2 sz_2 (by decide) rfl rfl (fun _ => GR_cons rfl rfl rfl rfl (V_move rfl rfl) (GR_cons rfl rfl rfl rfl (V_move rfl rfl) (GR_cons rfl rfl rfl rfl ((by first | exact V_nilCheck rfl rfl | exact V_nilCheck_func rfl rfl | exact V_nilCheck_yield rfl rfl)) (GR_cons rfl rfl rfl rfl ((by first | exact V_field rfl rfl fo_101_1 | exact V_fieldA rfl rfl fo_101_1)) (GR_cons rfl rfl rfl rfl (V_load rfl rfl ag_42 (CellAt.item rfl)) (GR_nil)))))) (fun b40 => ?_)
          refine GT_append (enc := eI) (m := [(d.getD k default).ser]) rfl rfl rfl rfl rfl rfl rfl hO1 (fun w m => RdL.own' m eI_len) Try.underlying42 zc_2 sz_2 ⟨rfl, by decide⟩ by_2 ⟨by simp only [List.length_singleton]; omega, by simp only [List.length_singleton]; omega⟩ eI_len eI_one (fun _ _ _ _ => GR_cons rfl rfl rfl rfl (V_move rfl rfl) (GR_nil)) (fun As' cs' Is' hO1' => ?_)
          first | refine GT_st rfl rfl rfl rfl (V_nilCheck rfl rfl) ?_ | refine GT_st rfl rfl rfl rfl (V_nilCheck_func rfl rfl) ?_ | refine GT_st rfl rfl rfl rfl (V_nilCheck_yield rfl rfl) ?_
          first | refine GT_st rfl rfl rfl rfl (V_field rfl rfl fo_101_1) ?_ | refine GT_st rfl rfl rfl rfl (V_fieldA rfl rfl fo_101_1) ?_
          refine GT_store (vs := [_]) (l' := [_, _, _]) rfl rfl rfl rfl rfl rfl rfl sz_42 rfl rfl (Nat.le_of_ble_eq_true rfl) rfl (GR_nil) ?_
          refine GT_nil ?_
          refine GE_slots (L' := [(2, _), (9, _), (11, _), (27, _), (28, _), (29, _)]) ⟨rfl, rfl, rfl, rfl, rfl, rfl, trivial⟩ ?_
          refine GE_drawn (.st 0 (.st 1 (.st 2 (.st 3 (.st 4 (.st 5 (.st 6 (.st 7 (.st 8 (.st 9 (.st 10 (.st 11 (.st 12 (.ld 13 [0, 1, 2, 3, 4] (.ld 14 [0] (.st 15 (.st 16 (.ld 17 [] .nil)))))))))))))))))) [13, 14, 17] (by decide +kernel) ?_
          refine GT_st rfl rfl rfl rfl (V_move rfl rfl) ?_
          refine GT_st rfl rfl rfl rfl (V_move rfl rfl) ?_
          first | refine GT_st rfl rfl rfl rfl (V_nilCheck rfl rfl) ?_ | refine GT_st rfl rfl rfl rfl (V_nilCheck_func rfl rfl) ?_ | refine GT_st rfl rfl rfl rfl (V_nilCheck_yield rfl rfl) ?_
          first | refine GT_st rfl rfl rfl rfl (V_field rfl rfl fo_101_2) ?_ | refine GT_st rfl rfl rfl rfl (V_fieldA rfl rfl fo_101_2) ?_
          refine GT_st rfl rfl rfl rfl (V_load rfl rfl ag_66 (CellAt.item rfl)) ?_
          first | refine GT_st rfl rfl rfl rfl (V_field rfl rfl fo_50_1) ?_ | refine GT_st rfl rfl rfl rfl (V_fieldA rfl rfl fo_50_1) ?_
          refine GT_st rfl rfl rfl rfl (V_load rfl rfl ag_2 (CellAt.item rfl)) ?_
          first | refine GT_st rfl rfl rfl rfl (V_field rfl rfl fo_50_2) ?_ | refine GT_st rfl rfl rfl rfl (V_fieldA rfl rfl fo_50_2) ?_
          refine GT_st rfl rfl rfl rfl (V_load rfl rfl ag_2 (CellAt.item rfl)) ?_
          refine GT_st rfl rfl rfl rfl (V_build (vs := [_, _]) rfl rfl zc_117 pl_117 sa_117 rfl) ?_
          refine GT_st rfl rfl rfl rfl (V_move rfl rfl) ?_
          refine GT_st rfl rfl rfl rfl (V_indexAgg rfl rfl rfl Try.underlying117 ag_2 sz_2 (kk := side.toNat) (v := I (ofS (d.getD k default) side + 1)) (by have := hR.side; omega) (by have := hR.side; omega) (by unfold ofS; rcases hR.side with rfl | rfl <;> simp)) ?_
          refine GT_st rfl rfl rfl rfl (V_sub rfl rfl rfl ((show IntKind.i64.wrap (ofS (d.getD k default) side + 1 - 1) = ofS (d.getD k default) side from (wrap_i64 (by omega)).trans (by omega)))) ?_
          refine GT_buildSlice (z := [_]) rfl rfl rfl rfl rfl Try.underlying66 zc_3 sz_3 (by decide) rfl rfl (fun _ => GR_cons rfl rfl rfl rfl (V_move rfl rfl) (GR_cons rfl rfl rfl rfl (V_move rfl rfl) (GR_cons rfl rfl rfl rfl ((by first | exact V_nilCheck rfl rfl | exact V_nilCheck_func rfl rfl | exact V_nilCheck_yield rfl rfl)) (GR_cons rfl rfl rfl rfl ((by first | exact V_field rfl rfl fo_101_2 | exact V_fieldA rfl rfl fo_101_2)) (GR_cons rfl rfl rfl rfl (V_load rfl rfl ag_66 (CellAt.item rfl)) (GR_nil)))))) (fun b57 => ?_)
          refine GT_append (enc := eI) (m := [ofS (d.getD k default) side]) rfl rfl rfl rfl rfl rfl rfl hO2 (fun w m => RdL.own' m eI_len) Try.underlying66 zc_3 sz_3 ⟨rfl, by decide⟩ by_3 ⟨by simp only [List.length_singleton]; omega, by simp only [List.length_singleton]; omega⟩ eI_len eI_one (fun _ _ _ _ => GR_cons rfl rfl rfl rfl (V_move rfl rfl) (GR_nil)) (fun Am' cm' Im' hO2' => ?_)
          first | refine GT_st rfl rfl rfl rfl (V_nilCheck rfl rfl) ?_ | refine GT_st rfl rfl rfl rfl (V_nilCheck_func rfl rfl) ?_ | refine GT_st rfl rfl rfl rfl (V_nilCheck_yield rfl rfl) ?_
          first | refine GT_st rfl rfl rfl rfl (V_field rfl rfl fo_101_2) ?_ | refine GT_st rfl rfl rfl rfl (V_fieldA rfl rfl fo_101_2) ?_
          refine GT_store (vs := [_]) (l' := [_, _, _]) rfl rfl rfl rfl rfl rfl rfl sz_66 rfl rfl (Nat.le_of_ble_eq_true rfl) rfl (GR_nil) ?_
          refine GT_nil ?_
          refine GE_inBlock ?_
          refine GE_slots (L' := [(2, _), (9, _), (27, _), (28, _), (29, _)]) ⟨rfl, rfl, rfl, rfl, rfl, trivial⟩ ?_
          refine GE_plain (.st 0 (.ld 1 [] .nil)) rfl ?_
          refine GT_st rfl rfl rfl rfl (V_add rfl rfl rfl (wrap_i64 (by omega))) ?_
          refine GT_ldv rfl rfl rfl rfl rfl (V_move rfl rfl) (GR_nil) ?_
          refine GT_nil ?_
          rw [e1] at hO1' ⊢; rw [e2] at hO2' ⊢; exact GE_to (ih (k + 1, (As', cs', Is'), (Am', cm', Im')) ⟨by dsimp only; omega, hO1', hO2'⟩ (by dsimp only; omega)) ⟨rfl, rfl, rfl, rfl, rfl, trivial⟩ (HS.cons rfl (HS.chunk HS.last))
        · obtain rfl : k = d.length := (by omega); rw [List.take_of_length_le (by omega)] at hO1; rw [List.take_of_length_le (by omega)] at hO2
          refine GE_exit rfl ?_
          refine GE_seq ?_
          refine GE_slots (L' := [(9, _)]) ⟨rfl, trivial⟩ ?_
          refine GE_plain (.st 0 (.st 1 (.st 2 .nil))) rfl ?_
          refine GT_st rfl rfl rfl rfl (V_move rfl rfl) ?_
          refine GT_st rfl rfl rfl rfl (V_assign rfl rfl) ?_
          refine GT_st rfl rfl rfl rfl (V_assign rfl rfl) ?_
          refine GT_nil ?_
          refine GE_ret Try.func47 ⟨_, _, rfl, rfl, rfl⟩ (fun w hw => ?_)
          refine ⟨(b26, (As, cs, Is), (Am, cm, Im)), ⟨hO1, hO2⟩, rfl, ?_⟩; dsimp only [roomC]; rw [hts _ (Nat.le_refl _), htm _ (Nat.le_refl _)] at hw; exact hw
      · exact ⟨Nat.zero_le _, Own.nil, Own.nil⟩
    · skip
      refine GE_seq ?_
      refine GE_plain (.st 0 (.st 1 (.st 2 (.st 3 (.st 4 (.st 5 .nil)))))) rfl ?_
      refine GT_st rfl rfl rfl rfl (V_move rfl rfl) ?_
      refine GT_st rfl rfl rfl rfl (V_neq rfl rfl rfl) ?_
      refine GT_st rfl rfl rfl rfl (V_move rfl rfl) ?_
      first | refine GT_splitNot (d := 20) rfl (fun h1 => ?_) (fun h1 => ?_) | refine GT_split (d := 20) rfl (fun h1 => ?_) (fun h1 => ?_) | refine GT_splitNotB (d := 20) rfl (fun h1 => ?_) (fun h1 => ?_) | refine GT_splitB (d := 20) rfl (fun h1 => ?_) (fun h1 => ?_)
      · skip
        refine GT_st_g rfl rfl rfl rfl rfl rfl rfl (V_move rfl rfl) ?_
        refine GT_st_g rfl rfl rfl rfl rfl rfl rfl (V_neq rfl rfl rfl) ?_
        refine GT_st rfl rfl rfl rfl (V_pick_t rfl rfl rfl) ?_
        refine GT_nil ?_
        first | refine GE_condNot rfl (fun h2 => ?_) (fun h2 => ?_) | refine GE_cond rfl (fun h2 => ?_) (fun h2 => ?_) | refine GE_condNotB rfl (fun h2 => ?_) (fun h2 => ?_) | refine GE_condB rfl (fun h2 => ?_) (fun h2 => ?_)
        · exact absurd hR.side (by omega)
        · skip
          refine GE_skip ?_
          exact GE_to (hk6 () trivial) ⟨rfl, rfl, rfl, trivial⟩ HS.nil
      · skip
        refine GT_skip rfl rfl rfl rfl rfl (by decide) rfl rfl ?_
        refine GT_skip rfl rfl rfl rfl rfl (by decide) rfl rfl ?_
        refine GT_st rfl rfl rfl rfl (V_pick_f rfl rfl rfl) ?_
        refine GT_nil ?_
        refine GE_cond_f rfl ?_
        refine GE_skip ?_
        exact GE_to (hk6 () trivial) ⟨rfl, rfl, rfl, trivial⟩ HS.nil
end
end Go.Proofs.Ytfaggcmcfhljpaa
