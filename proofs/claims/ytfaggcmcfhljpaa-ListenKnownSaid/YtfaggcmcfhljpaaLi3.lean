/- The reference's samplings, walked. -/
import Derived.Test.YtfaggcmcfhljpaaLi2
namespace Go.Proofs.Ytfaggcmcfhljpaa
open Go.Sx Go.Proofs

theorem C_ref09_choose {n k : Int} {w : World} (hn : 0 ≤ n ∧ n ≤ 50) : Con0 Try.prog 41 [I n, I k] w (I (cho n k)) := by
  refine Ret_of (vs := [_, _]) hm none' Try.func41 rfl Try.ntmps41 rfl ?_
  dsimp only [slotsOf]
  refine GE_seq ?_
  refine GE_plain (.st 0 .nil) rfl ?_
  refine GT_st rfl rfl rfl rfl (V_assign rfl rfl) ?_
  refine GT_nil ?_
  refine GE_seq ?_
  refine GE_seq ?_
  refine GE_plain (.st 0 (.st 1 (.st 2 (.st 3 (.st 4 (.st 5 (.st 6 .nil))))))) rfl ?_
  refine GT_st rfl rfl rfl rfl (V_move rfl rfl) ?_
  refine GT_st rfl rfl rfl rfl (V_lss rfl rfl rfl) ?_
  refine GT_st rfl rfl rfl rfl (V_move rfl rfl) ?_
  first | refine GT_splitNot (d := 9) rfl (fun h1 => ?_) (fun h1 => ?_) | refine GT_split (d := 9) rfl (fun h1 => ?_) (fun h1 => ?_) | refine GT_splitNotB (d := 9) rfl (fun h1 => ?_) (fun h1 => ?_) | refine GT_splitB (d := 9) rfl (fun h1 => ?_) (fun h1 => ?_)
  · have e : cho n k = 0 := if_pos h1
    refine GT_skip rfl rfl rfl rfl rfl (by decide) rfl rfl ?_
    refine GT_skip rfl rfl rfl rfl rfl (by decide) rfl rfl ?_
    refine GT_skip rfl rfl rfl rfl rfl (by decide) rfl rfl ?_
    refine GT_st rfl rfl rfl rfl (V_pick_t rfl rfl rfl) ?_
    refine GT_nil ?_
    refine GE_cond_t rfl ?_
    refine GE_seq ?_
    refine GE_slots (L' := []) trivial ?_
    refine GE_plain (.st 0 .nil) rfl ?_
    refine GT_st rfl rfl rfl rfl (V_assign rfl rfl) ?_
    refine GT_nil ?_
    refine GE_ret Try.func41 rfl (fun w hw => ⟨?_, hw.nil⟩)
    rw [e]
  · skip
    refine GT_st_g rfl rfl rfl rfl rfl rfl rfl (V_move rfl rfl) ?_
    refine GT_st_g rfl rfl rfl rfl rfl rfl rfl (V_move rfl rfl) ?_
    refine GT_st_g rfl rfl rfl rfl rfl rfl rfl (V_gtr rfl rfl rfl) ?_
    refine GT_st rfl rfl rfl rfl (V_pick_f rfl rfl rfl) ?_
    refine GT_nil ?_
    first | refine GE_condNot rfl (fun h2 => ?_) (fun h2 => ?_) | refine GE_cond rfl (fun h2 => ?_) (fun h2 => ?_) | refine GE_condNotB rfl (fun h2 => ?_) (fun h2 => ?_) | refine GE_condB rfl (fun h2 => ?_) (fun h2 => ?_)
    · have e : cho n k = 0 := (by unfold cho; rw [if_neg (by omega), ch_gt (by omega)]; rfl)
      refine GE_seq ?_
      refine GE_slots (L' := []) trivial ?_
      refine GE_plain (.st 0 .nil) rfl ?_
      refine GT_st rfl rfl rfl rfl (V_assign rfl rfl) ?_
      refine GT_nil ?_
      refine GE_ret Try.func41 rfl (fun w hw => ⟨?_, hw.nil⟩)
      rw [e]
    · have e : cho n k = (ch n.toNat k.toNat : Nat) := if_neg (by omega)
      refine GE_skip ?_
      refine GE_seq ?_
      refine GE_slots (L' := [(0, _), (1, _)]) ⟨rfl, rfl, trivial⟩ ?_
      refine GE_plain (.st 0 .nil) rfl ?_
      refine GT_st rfl rfl rfl rfl (V_assign rfl rfl) ?_
      refine GT_nil ?_
      refine GE_seq ?_
      refine GE_seq ?_
      refine GE_plain (.st 0 .nil) rfl ?_
      refine GT_st rfl rfl rfl rfl (V_assign rfl rfl) ?_
      refine GT_nil ?_
      refine GE_block ?_
      refine GE_to (GE_loop (ι := Nat) (fun j => k.toNat - j) (fun j => [(0, I n), (1, I k), (5, I (ch ((n - k).toNat + j) j)), (6, I (j + 1))]) (fun j => []) (fun j => (j : Int) ≤ k) ?_ 0 ?_) ⟨rfl, rfl, lookI rfl (by rw [ch_zero]; rfl), rfl, trivial⟩ HS.nil
      · intro j hj ih; have hb1 := ch_bd (n := (n - k).toNat + j) (k := j) (by omega)
        refine GE_seq ?_
        refine GE_seq ?_
        refine GE_plain (.st 0 (.st 1 (.st 2 .nil))) rfl ?_
        refine GT_st rfl rfl rfl rfl (V_move rfl rfl) ?_
        refine GT_st rfl rfl rfl rfl (V_move rfl rfl) ?_
        refine GT_st rfl rfl rfl rfl (V_leq rfl rfl rfl) ?_
        refine GT_nil ?_
        first | refine GE_condNot rfl (fun h3 => ?_) (fun h3 => ?_) | refine GE_cond rfl (fun h3 => ?_) (fun h3 => ?_) | refine GE_condNotB rfl (fun h3 => ?_) (fun h3 => ?_) | refine GE_condB rfl (fun h3 => ?_) (fun h3 => ?_)
        · have hmul : (ch ((n - k).toNat + j) j : Int) * (n - k + ((j : Int) + 1)) = ((j : Int) + 1) * (ch ((n - k).toNat + (j + 1)) (j + 1) : Nat) := (by have h := ch_mul ((n - k).toNat + j) j; have h' := congrArg (fun x : Nat => (x : Int)) h; simp only [Int.natCast_mul, Int.natCast_add] at h'; rw [show (n - k).toNat + (j + 1) = (n - k).toNat + j + 1 by omega, show ((j : Int) + 1) = ((j : Int) + ((1 : Nat) : Int)) from rfl, h', Int.mul_comm]; congr 1; omega)
          have hb2 := ch_bd (n := (n - k).toNat + (j + 1)) (k := j + 1) (by omega)
          have hb3 : 0 ≤ ((j : Int) + 1) * (ch ((n - k).toNat + (j + 1)) (j + 1) : Nat) ∧ ((j : Int) + 1) * (ch ((n - k).toNat + (j + 1)) (j + 1) : Nat) ≤ 51 * 1125899906842624 := ⟨Int.mul_nonneg (by omega) (by omega), Int.mul_le_mul (by omega) hb2 (by omega) (by decide)⟩
          refine GE_skip ?_
          refine GE_seq ?_
          refine GE_block ?_
          refine GE_plain (.st 0 (.st 1 (.st 2 (.st 3 (.st 4 (.st 5 (.st 6 (.st 7 (.st 8 (.ld 9 [] .nil)))))))))) rfl ?_
          refine GT_st rfl rfl rfl rfl (V_move rfl rfl) ?_
          refine GT_st rfl rfl rfl rfl (V_move rfl rfl) ?_
          refine GT_st rfl rfl rfl rfl (V_move rfl rfl) ?_
          refine GT_st rfl rfl rfl rfl (V_sub rfl rfl rfl (wrap_i64 (by omega))) ?_
          refine GT_st rfl rfl rfl rfl (V_move rfl rfl) ?_
          refine GT_st rfl rfl rfl rfl (V_add rfl rfl rfl (wrap_i64 (by omega))) ?_
          refine GT_st rfl rfl rfl rfl (V_mul rfl rfl rfl ((congrArg IntKind.i64.wrap hmul).trans (wrap_i64 (by omega)))) ?_
          refine GT_st rfl rfl rfl rfl (V_move rfl rfl) ?_
          refine GT_st rfl rfl rfl rfl (V_quo rfl rfl rfl (by omega) ((congrArg IntKind.i64.wrap (Int.mul_tdiv_cancel_left (a := (j : Int) + 1) ((ch ((n - k).toNat + (j + 1)) (j + 1) : Nat) : Int) (by omega))).trans (wrap_i64 (by omega)))) ?_
          refine GT_ldv rfl rfl rfl rfl rfl (V_assign rfl rfl) (GR_nil) ?_
          refine GT_nil ?_
          refine GE_inBlock ?_
          refine GE_slots (L' := [(0, _), (1, _), (5, _), (6, _)]) ⟨rfl, rfl, rfl, rfl, trivial⟩ ?_
          refine GE_plain (.st 0 (.st 1 (.ld 2 [] .nil))) rfl ?_
          refine GT_st rfl rfl rfl rfl (V_move rfl rfl) ?_
          refine GT_st rfl rfl rfl rfl (V_add rfl rfl rfl (wrap_i64 (by omega))) ?_
          refine GT_ldv rfl rfl rfl rfl rfl (V_assign rfl rfl) (GR_nil) ?_
          refine GT_nil ?_
          exact GE_to (ih (j + 1) (by omega) (by omega)) ⟨rfl, rfl, rfl, lookI rfl (by push_cast; rfl), trivial⟩ HS.nil
        · obtain rfl : j = k.toNat := (by omega); rw [show (n - k).toNat + k.toNat = n.toNat by omega] at *
          refine GE_exit rfl ?_
          refine GE_seq ?_
          refine GE_slots (L' := [(5, _)]) ⟨rfl, trivial⟩ ?_
          refine GE_plain (.st 0 (.st 1 .nil)) rfl ?_
          refine GT_st rfl rfl rfl rfl (V_move rfl rfl) ?_
          refine GT_st rfl rfl rfl rfl (V_assign rfl rfl) ?_
          refine GT_nil ?_
          refine GE_ret Try.func41 rfl (fun w hw => ⟨?_, hw.nil⟩)
          rw [e]
      · omega
theorem C_ref09_ways {n s b c : Int} {w : World} (hn : 0 ≤ n ∧ n ≤ 50) (hb : 0 ≤ b ∧ b ≤ n) (hs : 0 ≤ s ∧ s ≤ n) (hc : -1 ≤ c ∧ c ≤ n) :
    Con0 Try.prog 42 [I n, I b, I s, I c] w (I (ways n b s c)) := by
  refine Ret_of (vs := [_, _, _, _]) hm none' Try.func42 rfl Try.ntmps42 rfl ?_
  dsimp only [slotsOf]
  refine GE_seq ?_
  refine GE_plain (.st 0 .nil) rfl ?_
  refine GT_st rfl rfl rfl rfl (V_assign rfl rfl) ?_
  refine GT_nil ?_
  refine GE_seq ?_
  refine GE_plain (.st 0 .nil) rfl ?_
  refine GT_st rfl rfl rfl rfl (V_assign rfl rfl) ?_
  refine GT_nil ?_
  refine GE_seq ?_
  refine GE_seq ?_
  refine GE_plain (.st 0 .nil) rfl ?_
  refine GT_st rfl rfl rfl rfl (V_assign rfl rfl) ?_
  refine GT_nil ?_
  refine GE_block ?_
  refine GE_to (GE_loop (ι := Nat) (fun k => (c + 1).toNat - k) (fun k => [(0, I n), (1, I b), (2, I s), (3, I c), (9, I (wy b.toNat (n - b).toNat s.toNat k)), (10, I k)]) (fun k => []) (fun k => (k : Int) ≤ c + 1) ?_ 0 ?_) ⟨rfl, rfl, rfl, rfl, rfl, rfl, trivial⟩ HS.nil
  · intro k hk ih
    refine GE_seq ?_
    refine GE_seq ?_
    refine GE_plain (.st 0 (.st 1 (.st 2 .nil))) rfl ?_
    refine GT_st rfl rfl rfl rfl (V_move rfl rfl) ?_
    refine GT_st rfl rfl rfl rfl (V_move rfl rfl) ?_
    refine GT_st rfl rfl rfl rfl (V_leq rfl rfl rfl) ?_
    refine GT_nil ?_
    first | refine GE_condNot rfl (fun h1 => ?_) (fun h1 => ?_) | refine GE_cond rfl (fun h1 => ?_) (fun h1 => ?_) | refine GE_condNotB rfl (fun h1 => ?_) (fun h1 => ?_) | refine GE_condB rfl (fun h1 => ?_) (fun h1 => ?_)
    · obtain ⟨tm, htm, hwy⟩ : ∃ tm : Nat, cho b k * cho (n - b) (s - k) = (tm : Int) ∧ (wy b.toNat (n - b).toNat s.toNat (k + 1) : Int) = wy b.toNat (n - b).toNat s.toNat k + (tm : Int) := ⟨_, term_nat hb hs.1, by rw [wy]; push_cast; rfl⟩
      have hbd := wy_bd (s := s) hb hn.2 (k + 1)
      refine GE_skip ?_
      refine GE_seq ?_
      refine GE_block ?_
      refine GE_plain (.st 0 (.st 1 (.st 2 (.ld 3 [] (.st 4 (.st 5 (.st 6 (.st 7 (.st 8 (.st 9 (.ld 10 [] (.st 11 (.st 12 (.ld 13 [] .nil)))))))))))))) rfl ?_
      refine GT_st rfl rfl rfl rfl (V_move rfl rfl) ?_
      refine GT_st rfl rfl rfl rfl (V_move rfl rfl) ?_
      refine GT_st rfl rfl rfl rfl (V_move rfl rfl) ?_
      refine GT_call0 rfl rfl rfl rfl rfl rfl rfl rfl rn_41 (fun w hw => C_ref09_choose (by omega)) (GR_nil) ?_
      refine GT_st rfl rfl rfl rfl (V_move rfl rfl) ?_
      refine GT_st rfl rfl rfl rfl (V_move rfl rfl) ?_
      refine GT_st rfl rfl rfl rfl (V_sub rfl rfl rfl (wrap_i64 (by omega))) ?_
      refine GT_st rfl rfl rfl rfl (V_move rfl rfl) ?_
      refine GT_st rfl rfl rfl rfl (V_move rfl rfl) ?_
      refine GT_st rfl rfl rfl rfl (V_sub rfl rfl rfl (wrap_i64 (by omega))) ?_
      refine GT_call0 rfl rfl rfl rfl rfl rfl rfl rfl rn_41 (fun w hw => C_ref09_choose (by omega)) (GR_nil) ?_
      refine GT_st rfl rfl rfl rfl (V_mul rfl rfl rfl ((congrArg IntKind.i64.wrap htm).trans (wrap_i64 (by omega)))) ?_
      refine GT_st rfl rfl rfl rfl (V_add rfl rfl rfl (wrap_i64 (by omega))) ?_
      refine GT_ldv rfl rfl rfl rfl rfl (V_assign rfl rfl) (GR_nil) ?_
      refine GT_nil ?_
      refine GE_inBlock ?_
      refine GE_slots (L' := [(0, _), (1, _), (2, _), (3, _), (9, _), (10, _)]) ⟨rfl, rfl, rfl, rfl, rfl, rfl, trivial⟩ ?_
      refine GE_plain (.st 0 (.st 1 (.ld 2 [] .nil))) rfl ?_
      refine GT_st rfl rfl rfl rfl (V_move rfl rfl) ?_
      refine GT_st rfl rfl rfl rfl (V_add rfl rfl rfl (wrap_i64 (by omega))) ?_
      refine GT_ldv rfl rfl rfl rfl rfl (V_assign rfl rfl) (GR_nil) ?_
      refine GT_nil ?_
      rw [← hwy]; exact GE_to (ih (k + 1) (by omega) (by omega)) ⟨rfl, rfl, rfl, rfl, rfl, rfl, trivial⟩ HS.nil
    · obtain rfl : k = (c + 1).toNat := (by omega)
      refine GE_exit rfl ?_
      refine GE_seq ?_
      refine GE_slots (L' := [(9, _)]) ⟨rfl, trivial⟩ ?_
      refine GE_plain (.st 0 (.st 1 .nil)) rfl ?_
      refine GT_st rfl rfl rfl rfl (V_move rfl rfl) ?_
      refine GT_st rfl rfl rfl rfl (V_assign rfl rfl) ?_
      refine GT_nil ?_
      refine GE_ret Try.func42 rfl (fun w hw => ⟨?_, hw.nil⟩)
      rfl
  · omega
theorem C_ref09_Choose {n k : Int} {w : World} : Con0 Try.prog 16 [I n, I k] w (.tuple #[I (chooseR n k).1, I (chooseR n k).2]) := by
  have hno : ¬ ((0 ≤ n ∧ n ≤ 50) ∧ 0 ≤ k ∧ k ≤ n) → chooseR n k = (0, 3) := fun h => if_neg (by rw [Bool.and_eq_true, betw_iff, betw_iff]; exact h)
  have hyes : (0 ≤ n ∧ n ≤ 50) ∧ 0 ≤ k ∧ k ≤ n → chooseR n k = (cho n k, 0) := fun h => if_pos (by rw [Bool.and_eq_true, betw_iff, betw_iff]; exact h)
  refine Ret_of (vs := [_, _]) hm none' Try.func16 rfl Try.ntmps16 rfl ?_
  dsimp only [slotsOf]
  refine GE_seq ?_
  refine GE_plain (.st 0 (.st 1 .nil)) rfl ?_
  refine GT_st rfl rfl rfl rfl (V_assign rfl rfl) ?_
  refine GT_st rfl rfl rfl rfl (V_assign rfl rfl) ?_
  refine GT_nil ?_
  refine GE_seq ?_
  refine GE_seq ?_
  refine GE_plain (.st 0 (.st 1 (.st 2 (.st 3 (.st 4 (.st 5 (.st 6 (.st 7 (.st 8 (.st 9 (.st 10 (.st 11 (.st 12 (.st 13 (.st 14 .nil))))))))))))))) rfl ?_
  refine GT_st rfl rfl rfl rfl (V_move rfl rfl) ?_
  refine GT_st rfl rfl rfl rfl (V_lss rfl rfl rfl) ?_
  refine GT_st rfl rfl rfl rfl (V_move rfl rfl) ?_
  first | refine GT_splitNot (d := 8) rfl (fun h1 => ?_) (fun h1 => ?_) | refine GT_split (d := 8) rfl (fun h1 => ?_) (fun h1 => ?_) | refine GT_splitNotB (d := 8) rfl (fun h1 => ?_) (fun h1 => ?_) | refine GT_splitB (d := 8) rfl (fun h1 => ?_) (fun h1 => ?_)
  · skip
    refine GT_skip rfl rfl rfl rfl rfl (by decide) rfl rfl ?_
    refine GT_skip rfl rfl rfl rfl rfl (by decide) rfl rfl ?_
    refine GT_st rfl rfl rfl rfl (V_pick_t rfl rfl rfl) ?_
    refine GT_st rfl rfl rfl rfl (V_move rfl rfl) ?_
    refine GT_skip rfl rfl rfl rfl rfl (by decide) rfl rfl ?_
    refine GT_skip rfl rfl rfl rfl rfl (by decide) rfl rfl ?_
    refine GT_st rfl rfl rfl rfl (V_pick_t rfl rfl rfl) ?_
    refine GT_st rfl rfl rfl rfl (V_move rfl rfl) ?_
    refine GT_skip rfl rfl rfl rfl rfl (by decide) rfl rfl ?_
    refine GT_skip rfl rfl rfl rfl rfl (by decide) rfl rfl ?_
    refine GT_skip rfl rfl rfl rfl rfl (by decide) rfl rfl ?_
    refine GT_st rfl rfl rfl rfl (V_pick_t rfl rfl rfl) ?_
    refine GT_nil ?_
    refine GE_cond_t rfl ?_
    refine GE_seq ?_
    refine GE_slots (L' := []) trivial ?_
    refine GE_plain (.st 0 (.st 1 .nil)) rfl ?_
    refine GT_st rfl rfl rfl rfl (V_assign rfl rfl) ?_
    refine GT_st rfl rfl rfl rfl (V_assign rfl rfl) ?_
    refine GT_nil ?_
    refine GE_ret Try.func16 ⟨_, _, rfl, rfl, rfl⟩ (fun w hw => ⟨?_, hw.nil⟩)
    first | rw [hyes (by omega)] | rw [hno (by omega)]
  · skip
    refine GT_st_g rfl rfl rfl rfl rfl rfl rfl (V_move rfl rfl) ?_
    refine GT_st_g rfl rfl rfl rfl rfl rfl rfl (V_gtr rfl rfl rfl) ?_
    refine GT_st rfl rfl rfl rfl (V_pick_f rfl rfl rfl) ?_
    refine GT_st rfl rfl rfl rfl (V_move rfl rfl) ?_
    first | refine GT_splitNot (d := 12) rfl (fun h2 => ?_) (fun h2 => ?_) | refine GT_split (d := 12) rfl (fun h2 => ?_) (fun h2 => ?_) | refine GT_splitNotB (d := 12) rfl (fun h2 => ?_) (fun h2 => ?_) | refine GT_splitB (d := 12) rfl (fun h2 => ?_) (fun h2 => ?_)
    · skip
      refine GT_skip rfl rfl rfl rfl rfl (by decide) rfl rfl ?_
      refine GT_skip rfl rfl rfl rfl rfl (by decide) rfl rfl ?_
      refine GT_st rfl rfl rfl rfl (V_pick_t rfl rfl rfl) ?_
      refine GT_st rfl rfl rfl rfl (V_move rfl rfl) ?_
      refine GT_skip rfl rfl rfl rfl rfl (by decide) rfl rfl ?_
      refine GT_skip rfl rfl rfl rfl rfl (by decide) rfl rfl ?_
      refine GT_skip rfl rfl rfl rfl rfl (by decide) rfl rfl ?_
      refine GT_st rfl rfl rfl rfl (V_pick_t rfl rfl rfl) ?_
      refine GT_nil ?_
      refine GE_cond_t rfl ?_
      refine GE_seq ?_
      refine GE_slots (L' := []) trivial ?_
      refine GE_plain (.st 0 (.st 1 .nil)) rfl ?_
      refine GT_st rfl rfl rfl rfl (V_assign rfl rfl) ?_
      refine GT_st rfl rfl rfl rfl (V_assign rfl rfl) ?_
      refine GT_nil ?_
      refine GE_ret Try.func16 ⟨_, _, rfl, rfl, rfl⟩ (fun w hw => ⟨?_, hw.nil⟩)
      first | rw [hyes (by omega)] | rw [hno (by omega)]
    · skip
      refine GT_st_g rfl rfl rfl rfl rfl rfl rfl (V_move rfl rfl) ?_
      refine GT_st_g rfl rfl rfl rfl rfl rfl rfl (V_lss rfl rfl rfl) ?_
      refine GT_st rfl rfl rfl rfl (V_pick_f rfl rfl rfl) ?_
      refine GT_st rfl rfl rfl rfl (V_move rfl rfl) ?_
      first | refine GT_splitNot (d := 16) rfl (fun h3 => ?_) (fun h3 => ?_) | refine GT_split (d := 16) rfl (fun h3 => ?_) (fun h3 => ?_) | refine GT_splitNotB (d := 16) rfl (fun h3 => ?_) (fun h3 => ?_) | refine GT_splitB (d := 16) rfl (fun h3 => ?_) (fun h3 => ?_)
      · skip
        refine GT_skip rfl rfl rfl rfl rfl (by decide) rfl rfl ?_
        refine GT_skip rfl rfl rfl rfl rfl (by decide) rfl rfl ?_
        refine GT_skip rfl rfl rfl rfl rfl (by decide) rfl rfl ?_
        refine GT_st rfl rfl rfl rfl (V_pick_t rfl rfl rfl) ?_
        refine GT_nil ?_
        refine GE_cond_t rfl ?_
        refine GE_seq ?_
        refine GE_slots (L' := []) trivial ?_
        refine GE_plain (.st 0 (.st 1 .nil)) rfl ?_
        refine GT_st rfl rfl rfl rfl (V_assign rfl rfl) ?_
        refine GT_st rfl rfl rfl rfl (V_assign rfl rfl) ?_
        refine GT_nil ?_
        refine GE_ret Try.func16 ⟨_, _, rfl, rfl, rfl⟩ (fun w hw => ⟨?_, hw.nil⟩)
        first | rw [hyes (by omega)] | rw [hno (by omega)]
      · skip
        refine GT_st_g rfl rfl rfl rfl rfl rfl rfl (V_move rfl rfl) ?_
        refine GT_st_g rfl rfl rfl rfl rfl rfl rfl (V_move rfl rfl) ?_
        refine GT_st_g rfl rfl rfl rfl rfl rfl rfl (V_gtr rfl rfl rfl) ?_
        refine GT_st rfl rfl rfl rfl (V_pick_f rfl rfl rfl) ?_
        refine GT_nil ?_
        first | refine GE_condNot rfl (fun h4 => ?_) (fun h4 => ?_) | refine GE_cond rfl (fun h4 => ?_) (fun h4 => ?_) | refine GE_condNotB rfl (fun h4 => ?_) (fun h4 => ?_) | refine GE_condB rfl (fun h4 => ?_) (fun h4 => ?_)
        · skip
          refine GE_seq ?_
          refine GE_slots (L' := []) trivial ?_
          refine GE_plain (.st 0 (.st 1 .nil)) rfl ?_
          refine GT_st rfl rfl rfl rfl (V_assign rfl rfl) ?_
          refine GT_st rfl rfl rfl rfl (V_assign rfl rfl) ?_
          refine GT_nil ?_
          refine GE_ret Try.func16 ⟨_, _, rfl, rfl, rfl⟩ (fun w hw => ⟨?_, hw.nil⟩)
          first | rw [hyes (by omega)] | rw [hno (by omega)]
        · skip
          refine GE_skip ?_
          refine GE_seq ?_
          refine GE_slots (L' := [(0, _), (1, _)]) ⟨rfl, rfl, trivial⟩ ?_
          refine GE_plain (.st 0 (.st 1 (.ld 2 [] (.st 3 (.st 4 .nil))))) rfl ?_
          refine GT_st rfl rfl rfl rfl (V_move rfl rfl) ?_
          refine GT_st rfl rfl rfl rfl (V_move rfl rfl) ?_
          refine GT_call0 rfl rfl rfl rfl rfl rfl rfl rfl rn_41 (fun w hw => C_ref09_choose (by omega)) (GR_nil) ?_
          refine GT_st rfl rfl rfl rfl (V_assign rfl rfl) ?_
          refine GT_st rfl rfl rfl rfl (V_assign rfl rfl) ?_
          refine GT_nil ?_
          refine GE_ret Try.func16 ⟨_, _, rfl, rfl, rfl⟩ (fun w hw => ⟨?_, hw.nil⟩)
          first | rw [hyes (by omega)] | rw [hno (by omega)]
theorem C_ref09_Ways {n b s c : Int} {w : World} : Con0 Try.prog 17 [I n, I b, I s, I c] w (.tuple #[I (waysR n b s c).1, I (waysR n b s c).2]) := by
  have hno : ¬ ((((0 ≤ n ∧ n ≤ 50) ∧ 0 ≤ b ∧ b ≤ n) ∧ 0 ≤ s ∧ s ≤ n) ∧ -1 ≤ c ∧ c ≤ n) → waysR n b s c = (0, 3) := fun h => if_neg (by simp only [Bool.and_eq_true, betw_iff]; exact h)
  have hyes : (((0 ≤ n ∧ n ≤ 50) ∧ 0 ≤ b ∧ b ≤ n) ∧ 0 ≤ s ∧ s ≤ n) ∧ -1 ≤ c ∧ c ≤ n → waysR n b s c = (ways n b s c, 0) := fun h => if_pos (by simp only [Bool.and_eq_true, betw_iff]; exact h)
  refine Ret_of (vs := [_, _, _, _]) hm none' Try.func17 rfl Try.ntmps17 rfl ?_
  dsimp only [slotsOf]
  refine GE_seq ?_
  refine GE_plain (.st 0 (.st 1 .nil)) rfl ?_
  refine GT_st rfl rfl rfl rfl (V_assign rfl rfl) ?_
  refine GT_st rfl rfl rfl rfl (V_assign rfl rfl) ?_
  refine GT_nil ?_
  refine GE_seq ?_
  refine GE_seq ?_
  refine GE_plain (.st 0 (.st 1 (.st 2 (.st 3 (.st 4 (.st 5 (.st 6 (.st 7 (.st 8 (.st 9 (.st 10 (.st 11 (.st 12 (.st 13 (.st 14 (.st 15 (.st 16 (.st 17 (.st 18 (.st 19 (.st 20 (.st 21 (.st 22 (.st 23 (.st 24 (.st 25 (.st 26 (.st 27 (.st 28 (.st 29 (.st 30 (.st 31 (.st 32 .nil))))))))))))))))))))))))))))))))) rfl ?_
  refine GT_st rfl rfl rfl rfl (V_move rfl rfl) ?_
  refine GT_st rfl rfl rfl rfl (V_lss rfl rfl rfl) ?_
  refine GT_st rfl rfl rfl rfl (V_move rfl rfl) ?_
  first | refine GT_splitNot (d := 12) rfl (fun h1 => ?_) (fun h1 => ?_) | refine GT_split (d := 12) rfl (fun h1 => ?_) (fun h1 => ?_) | refine GT_splitNotB (d := 12) rfl (fun h1 => ?_) (fun h1 => ?_) | refine GT_splitB (d := 12) rfl (fun h1 => ?_) (fun h1 => ?_)
  · skip
    refine GT_skip rfl rfl rfl rfl rfl (by decide) rfl rfl ?_
    refine GT_skip rfl rfl rfl rfl rfl (by decide) rfl rfl ?_
    refine GT_st rfl rfl rfl rfl (V_pick_t rfl rfl rfl) ?_
    refine GT_st rfl rfl rfl rfl (V_move rfl rfl) ?_
    refine GT_skip rfl rfl rfl rfl rfl (by decide) rfl rfl ?_
    refine GT_skip rfl rfl rfl rfl rfl (by decide) rfl rfl ?_
    refine GT_st rfl rfl rfl rfl (V_pick_t rfl rfl rfl) ?_
    refine GT_st rfl rfl rfl rfl (V_move rfl rfl) ?_
    refine GT_skip rfl rfl rfl rfl rfl (by decide) rfl rfl ?_
    refine GT_skip rfl rfl rfl rfl rfl (by decide) rfl rfl ?_
    refine GT_skip rfl rfl rfl rfl rfl (by decide) rfl rfl ?_
    refine GT_st rfl rfl rfl rfl (V_pick_t rfl rfl rfl) ?_
    refine GT_st rfl rfl rfl rfl (V_move rfl rfl) ?_
    refine GT_skip rfl rfl rfl rfl rfl (by decide) rfl rfl ?_
    refine GT_skip rfl rfl rfl rfl rfl (by decide) rfl rfl ?_
    refine GT_st rfl rfl rfl rfl (V_pick_t rfl rfl rfl) ?_
    refine GT_st rfl rfl rfl rfl (V_move rfl rfl) ?_
    refine GT_skip rfl rfl rfl rfl rfl (by decide) rfl rfl ?_
    refine GT_skip rfl rfl rfl rfl rfl (by decide) rfl rfl ?_
    refine GT_skip rfl rfl rfl rfl rfl (by decide) rfl rfl ?_
    refine GT_st rfl rfl rfl rfl (V_pick_t rfl rfl rfl) ?_
    refine GT_st rfl rfl rfl rfl (V_move rfl rfl) ?_
    refine GT_skip rfl rfl rfl rfl rfl (by decide) rfl rfl ?_
    refine GT_skip rfl rfl rfl rfl rfl (by decide) rfl rfl ?_
    refine GT_st rfl rfl rfl rfl (V_pick_t rfl rfl rfl) ?_
    refine GT_st rfl rfl rfl rfl (V_move rfl rfl) ?_
    refine GT_skip rfl rfl rfl rfl rfl (by decide) rfl rfl ?_
    refine GT_skip rfl rfl rfl rfl rfl (by decide) rfl rfl ?_
    refine GT_skip rfl rfl rfl rfl rfl (by decide) rfl rfl ?_
    refine GT_st rfl rfl rfl rfl (V_pick_t rfl rfl rfl) ?_
    refine GT_nil ?_
    refine GE_cond_t rfl ?_
    refine GE_seq ?_
    refine GE_slots (L' := []) trivial ?_
    refine GE_plain (.st 0 (.st 1 .nil)) rfl ?_
    refine GT_st rfl rfl rfl rfl (V_assign rfl rfl) ?_
    refine GT_st rfl rfl rfl rfl (V_assign rfl rfl) ?_
    refine GT_nil ?_
    refine GE_ret Try.func17 ⟨_, _, rfl, rfl, rfl⟩ (fun w hw => ⟨?_, hw.nil⟩)
    first | rw [hyes (by omega)] | rw [hno (by omega)]
  · skip
    refine GT_st_g rfl rfl rfl rfl rfl rfl rfl (V_move rfl rfl) ?_
    refine GT_st_g rfl rfl rfl rfl rfl rfl rfl (V_gtr rfl rfl rfl) ?_
    refine GT_st rfl rfl rfl rfl (V_pick_f rfl rfl rfl) ?_
    refine GT_st rfl rfl rfl rfl (V_move rfl rfl) ?_
    first | refine GT_splitNot (d := 16) rfl (fun h2 => ?_) (fun h2 => ?_) | refine GT_split (d := 16) rfl (fun h2 => ?_) (fun h2 => ?_) | refine GT_splitNotB (d := 16) rfl (fun h2 => ?_) (fun h2 => ?_) | refine GT_splitB (d := 16) rfl (fun h2 => ?_) (fun h2 => ?_)
    · skip
      refine GT_skip rfl rfl rfl rfl rfl (by decide) rfl rfl ?_
      refine GT_skip rfl rfl rfl rfl rfl (by decide) rfl rfl ?_
      refine GT_st rfl rfl rfl rfl (V_pick_t rfl rfl rfl) ?_
      refine GT_st rfl rfl rfl rfl (V_move rfl rfl) ?_
      refine GT_skip rfl rfl rfl rfl rfl (by decide) rfl rfl ?_
      refine GT_skip rfl rfl rfl rfl rfl (by decide) rfl rfl ?_
      refine GT_skip rfl rfl rfl rfl rfl (by decide) rfl rfl ?_
      refine GT_st rfl rfl rfl rfl (V_pick_t rfl rfl rfl) ?_
      refine GT_st rfl rfl rfl rfl (V_move rfl rfl) ?_
      refine GT_skip rfl rfl rfl rfl rfl (by decide) rfl rfl ?_
      refine GT_skip rfl rfl rfl rfl rfl (by decide) rfl rfl ?_
      refine GT_st rfl rfl rfl rfl (V_pick_t rfl rfl rfl) ?_
      refine GT_st rfl rfl rfl rfl (V_move rfl rfl) ?_
      refine GT_skip rfl rfl rfl rfl rfl (by decide) rfl rfl ?_
      refine GT_skip rfl rfl rfl rfl rfl (by decide) rfl rfl ?_
      refine GT_skip rfl rfl rfl rfl rfl (by decide) rfl rfl ?_
      refine GT_st rfl rfl rfl rfl (V_pick_t rfl rfl rfl) ?_
      refine GT_st rfl rfl rfl rfl (V_move rfl rfl) ?_
      refine GT_skip rfl rfl rfl rfl rfl (by decide) rfl rfl ?_
      refine GT_skip rfl rfl rfl rfl rfl (by decide) rfl rfl ?_
      refine GT_st rfl rfl rfl rfl (V_pick_t rfl rfl rfl) ?_
      refine GT_st rfl rfl rfl rfl (V_move rfl rfl) ?_
      refine GT_skip rfl rfl rfl rfl rfl (by decide) rfl rfl ?_
      refine GT_skip rfl rfl rfl rfl rfl (by decide) rfl rfl ?_
      refine GT_skip rfl rfl rfl rfl rfl (by decide) rfl rfl ?_
      refine GT_st rfl rfl rfl rfl (V_pick_t rfl rfl rfl) ?_
      refine GT_nil ?_
      refine GE_cond_t rfl ?_
      refine GE_seq ?_
      refine GE_slots (L' := []) trivial ?_
      refine GE_plain (.st 0 (.st 1 .nil)) rfl ?_
      refine GT_st rfl rfl rfl rfl (V_assign rfl rfl) ?_
      refine GT_st rfl rfl rfl rfl (V_assign rfl rfl) ?_
      refine GT_nil ?_
      refine GE_ret Try.func17 ⟨_, _, rfl, rfl, rfl⟩ (fun w hw => ⟨?_, hw.nil⟩)
      first | rw [hyes (by omega)] | rw [hno (by omega)]
    · skip
      refine GT_st_g rfl rfl rfl rfl rfl rfl rfl (V_move rfl rfl) ?_
      refine GT_st_g rfl rfl rfl rfl rfl rfl rfl (V_lss rfl rfl rfl) ?_
      refine GT_st rfl rfl rfl rfl (V_pick_f rfl rfl rfl) ?_
      refine GT_st rfl rfl rfl rfl (V_move rfl rfl) ?_
      first | refine GT_splitNot (d := 20) rfl (fun h3 => ?_) (fun h3 => ?_) | refine GT_split (d := 20) rfl (fun h3 => ?_) (fun h3 => ?_) | refine GT_splitNotB (d := 20) rfl (fun h3 => ?_) (fun h3 => ?_) | refine GT_splitB (d := 20) rfl (fun h3 => ?_) (fun h3 => ?_)
      · skip
        refine GT_skip rfl rfl rfl rfl rfl (by decide) rfl rfl ?_
        refine GT_skip rfl rfl rfl rfl rfl (by decide) rfl rfl ?_
        refine GT_skip rfl rfl rfl rfl rfl (by decide) rfl rfl ?_
        refine GT_st rfl rfl rfl rfl (V_pick_t rfl rfl rfl) ?_
        refine GT_st rfl rfl rfl rfl (V_move rfl rfl) ?_
        refine GT_skip rfl rfl rfl rfl rfl (by decide) rfl rfl ?_
        refine GT_skip rfl rfl rfl rfl rfl (by decide) rfl rfl ?_
        refine GT_st rfl rfl rfl rfl (V_pick_t rfl rfl rfl) ?_
        refine GT_st rfl rfl rfl rfl (V_move rfl rfl) ?_
        refine GT_skip rfl rfl rfl rfl rfl (by decide) rfl rfl ?_
        refine GT_skip rfl rfl rfl rfl rfl (by decide) rfl rfl ?_
        refine GT_skip rfl rfl rfl rfl rfl (by decide) rfl rfl ?_
        refine GT_st rfl rfl rfl rfl (V_pick_t rfl rfl rfl) ?_
        refine GT_st rfl rfl rfl rfl (V_move rfl rfl) ?_
        refine GT_skip rfl rfl rfl rfl rfl (by decide) rfl rfl ?_
        refine GT_skip rfl rfl rfl rfl rfl (by decide) rfl rfl ?_
        refine GT_st rfl rfl rfl rfl (V_pick_t rfl rfl rfl) ?_
        refine GT_st rfl rfl rfl rfl (V_move rfl rfl) ?_
        refine GT_skip rfl rfl rfl rfl rfl (by decide) rfl rfl ?_
        refine GT_skip rfl rfl rfl rfl rfl (by decide) rfl rfl ?_
        refine GT_skip rfl rfl rfl rfl rfl (by decide) rfl rfl ?_
        refine GT_st rfl rfl rfl rfl (V_pick_t rfl rfl rfl) ?_
        refine GT_nil ?_
        refine GE_cond_t rfl ?_
        refine GE_seq ?_
        refine GE_slots (L' := []) trivial ?_
        refine GE_plain (.st 0 (.st 1 .nil)) rfl ?_
        refine GT_st rfl rfl rfl rfl (V_assign rfl rfl) ?_
        refine GT_st rfl rfl rfl rfl (V_assign rfl rfl) ?_
        refine GT_nil ?_
        refine GE_ret Try.func17 ⟨_, _, rfl, rfl, rfl⟩ (fun w hw => ⟨?_, hw.nil⟩)
        first | rw [hyes (by omega)] | rw [hno (by omega)]
      · skip
        refine GT_st_g rfl rfl rfl rfl rfl rfl rfl (V_move rfl rfl) ?_
        refine GT_st_g rfl rfl rfl rfl rfl rfl rfl (V_move rfl rfl) ?_
        refine GT_st_g rfl rfl rfl rfl rfl rfl rfl (V_gtr rfl rfl rfl) ?_
        refine GT_st rfl rfl rfl rfl (V_pick_f rfl rfl rfl) ?_
        refine GT_st rfl rfl rfl rfl (V_move rfl rfl) ?_
        first | refine GT_splitNot (d := 25) rfl (fun h4 => ?_) (fun h4 => ?_) | refine GT_split (d := 25) rfl (fun h4 => ?_) (fun h4 => ?_) | refine GT_splitNotB (d := 25) rfl (fun h4 => ?_) (fun h4 => ?_) | refine GT_splitB (d := 25) rfl (fun h4 => ?_) (fun h4 => ?_)
        · skip
          refine GT_skip rfl rfl rfl rfl rfl (by decide) rfl rfl ?_
          refine GT_skip rfl rfl rfl rfl rfl (by decide) rfl rfl ?_
          refine GT_st rfl rfl rfl rfl (V_pick_t rfl rfl rfl) ?_
          refine GT_st rfl rfl rfl rfl (V_move rfl rfl) ?_
          refine GT_skip rfl rfl rfl rfl rfl (by decide) rfl rfl ?_
          refine GT_skip rfl rfl rfl rfl rfl (by decide) rfl rfl ?_
          refine GT_skip rfl rfl rfl rfl rfl (by decide) rfl rfl ?_
          refine GT_st rfl rfl rfl rfl (V_pick_t rfl rfl rfl) ?_
          refine GT_st rfl rfl rfl rfl (V_move rfl rfl) ?_
          refine GT_skip rfl rfl rfl rfl rfl (by decide) rfl rfl ?_
          refine GT_skip rfl rfl rfl rfl rfl (by decide) rfl rfl ?_
          refine GT_st rfl rfl rfl rfl (V_pick_t rfl rfl rfl) ?_
          refine GT_st rfl rfl rfl rfl (V_move rfl rfl) ?_
          refine GT_skip rfl rfl rfl rfl rfl (by decide) rfl rfl ?_
          refine GT_skip rfl rfl rfl rfl rfl (by decide) rfl rfl ?_
          refine GT_skip rfl rfl rfl rfl rfl (by decide) rfl rfl ?_
          refine GT_st rfl rfl rfl rfl (V_pick_t rfl rfl rfl) ?_
          refine GT_nil ?_
          refine GE_cond_t rfl ?_
          refine GE_seq ?_
          refine GE_slots (L' := []) trivial ?_
          refine GE_plain (.st 0 (.st 1 .nil)) rfl ?_
          refine GT_st rfl rfl rfl rfl (V_assign rfl rfl) ?_
          refine GT_st rfl rfl rfl rfl (V_assign rfl rfl) ?_
          refine GT_nil ?_
          refine GE_ret Try.func17 ⟨_, _, rfl, rfl, rfl⟩ (fun w hw => ⟨?_, hw.nil⟩)
          first | rw [hyes (by omega)] | rw [hno (by omega)]
        · skip
          refine GT_st_g rfl rfl rfl rfl rfl rfl rfl (V_move rfl rfl) ?_
          refine GT_st_g rfl rfl rfl rfl rfl rfl rfl (V_lss rfl rfl rfl) ?_
          refine GT_st rfl rfl rfl rfl (V_pick_f rfl rfl rfl) ?_
          refine GT_st rfl rfl rfl rfl (V_move rfl rfl) ?_
          first | refine GT_splitNot (d := 29) rfl (fun h5 => ?_) (fun h5 => ?_) | refine GT_split (d := 29) rfl (fun h5 => ?_) (fun h5 => ?_) | refine GT_splitNotB (d := 29) rfl (fun h5 => ?_) (fun h5 => ?_) | refine GT_splitB (d := 29) rfl (fun h5 => ?_) (fun h5 => ?_)
          · skip
            refine GT_skip rfl rfl rfl rfl rfl (by decide) rfl rfl ?_
            refine GT_skip rfl rfl rfl rfl rfl (by decide) rfl rfl ?_
            refine GT_skip rfl rfl rfl rfl rfl (by decide) rfl rfl ?_
            refine GT_st rfl rfl rfl rfl (V_pick_t rfl rfl rfl) ?_
            refine GT_st rfl rfl rfl rfl (V_move rfl rfl) ?_
            refine GT_skip rfl rfl rfl rfl rfl (by decide) rfl rfl ?_
            refine GT_skip rfl rfl rfl rfl rfl (by decide) rfl rfl ?_
            refine GT_st rfl rfl rfl rfl (V_pick_t rfl rfl rfl) ?_
            refine GT_st rfl rfl rfl rfl (V_move rfl rfl) ?_
            refine GT_skip rfl rfl rfl rfl rfl (by decide) rfl rfl ?_
            refine GT_skip rfl rfl rfl rfl rfl (by decide) rfl rfl ?_
            refine GT_skip rfl rfl rfl rfl rfl (by decide) rfl rfl ?_
            refine GT_st rfl rfl rfl rfl (V_pick_t rfl rfl rfl) ?_
            refine GT_nil ?_
            refine GE_cond_t rfl ?_
            refine GE_seq ?_
            refine GE_slots (L' := []) trivial ?_
            refine GE_plain (.st 0 (.st 1 .nil)) rfl ?_
            refine GT_st rfl rfl rfl rfl (V_assign rfl rfl) ?_
            refine GT_st rfl rfl rfl rfl (V_assign rfl rfl) ?_
            refine GT_nil ?_
            refine GE_ret Try.func17 ⟨_, _, rfl, rfl, rfl⟩ (fun w hw => ⟨?_, hw.nil⟩)
            first | rw [hyes (by omega)] | rw [hno (by omega)]
          · skip
            refine GT_st_g rfl rfl rfl rfl rfl rfl rfl (V_move rfl rfl) ?_
            refine GT_st_g rfl rfl rfl rfl rfl rfl rfl (V_move rfl rfl) ?_
            refine GT_st_g rfl rfl rfl rfl rfl rfl rfl (V_gtr rfl rfl rfl) ?_
            refine GT_st rfl rfl rfl rfl (V_pick_f rfl rfl rfl) ?_
            refine GT_st rfl rfl rfl rfl (V_move rfl rfl) ?_
            first | refine GT_splitNot (d := 34) rfl (fun h6 => ?_) (fun h6 => ?_) | refine GT_split (d := 34) rfl (fun h6 => ?_) (fun h6 => ?_) | refine GT_splitNotB (d := 34) rfl (fun h6 => ?_) (fun h6 => ?_) | refine GT_splitB (d := 34) rfl (fun h6 => ?_) (fun h6 => ?_)
            · skip
              refine GT_skip rfl rfl rfl rfl rfl (by decide) rfl rfl ?_
              refine GT_skip rfl rfl rfl rfl rfl (by decide) rfl rfl ?_
              refine GT_st rfl rfl rfl rfl (V_pick_t rfl rfl rfl) ?_
              refine GT_st rfl rfl rfl rfl (V_move rfl rfl) ?_
              refine GT_skip rfl rfl rfl rfl rfl (by decide) rfl rfl ?_
              refine GT_skip rfl rfl rfl rfl rfl (by decide) rfl rfl ?_
              refine GT_skip rfl rfl rfl rfl rfl (by decide) rfl rfl ?_
              refine GT_st rfl rfl rfl rfl (V_pick_t rfl rfl rfl) ?_
              refine GT_nil ?_
              refine GE_cond_t rfl ?_
              refine GE_seq ?_
              refine GE_slots (L' := []) trivial ?_
              refine GE_plain (.st 0 (.st 1 .nil)) rfl ?_
              refine GT_st rfl rfl rfl rfl (V_assign rfl rfl) ?_
              refine GT_st rfl rfl rfl rfl (V_assign rfl rfl) ?_
              refine GT_nil ?_
              refine GE_ret Try.func17 ⟨_, _, rfl, rfl, rfl⟩ (fun w hw => ⟨?_, hw.nil⟩)
              first | rw [hyes (by omega)] | rw [hno (by omega)]
            · skip
              refine GT_st_g rfl rfl rfl rfl rfl rfl rfl (V_move rfl rfl) ?_
              refine GT_st_g rfl rfl rfl rfl rfl rfl rfl (V_lss rfl rfl rfl) ?_
              refine GT_st rfl rfl rfl rfl (V_pick_f rfl rfl rfl) ?_
              refine GT_st rfl rfl rfl rfl (V_move rfl rfl) ?_
              first | refine GT_splitNot (d := 38) rfl (fun h7 => ?_) (fun h7 => ?_) | refine GT_split (d := 38) rfl (fun h7 => ?_) (fun h7 => ?_) | refine GT_splitNotB (d := 38) rfl (fun h7 => ?_) (fun h7 => ?_) | refine GT_splitB (d := 38) rfl (fun h7 => ?_) (fun h7 => ?_)
              · skip
                refine GT_skip rfl rfl rfl rfl rfl (by decide) rfl rfl ?_
                refine GT_skip rfl rfl rfl rfl rfl (by decide) rfl rfl ?_
                refine GT_skip rfl rfl rfl rfl rfl (by decide) rfl rfl ?_
                refine GT_st rfl rfl rfl rfl (V_pick_t rfl rfl rfl) ?_
                refine GT_nil ?_
                refine GE_cond_t rfl ?_
                refine GE_seq ?_
                refine GE_slots (L' := []) trivial ?_
                refine GE_plain (.st 0 (.st 1 .nil)) rfl ?_
                refine GT_st rfl rfl rfl rfl (V_assign rfl rfl) ?_
                refine GT_st rfl rfl rfl rfl (V_assign rfl rfl) ?_
                refine GT_nil ?_
                refine GE_ret Try.func17 ⟨_, _, rfl, rfl, rfl⟩ (fun w hw => ⟨?_, hw.nil⟩)
                first | rw [hyes (by omega)] | rw [hno (by omega)]
              · skip
                refine GT_st_g rfl rfl rfl rfl rfl rfl rfl (V_move rfl rfl) ?_
                refine GT_st_g rfl rfl rfl rfl rfl rfl rfl (V_move rfl rfl) ?_
                refine GT_st_g rfl rfl rfl rfl rfl rfl rfl (V_gtr rfl rfl rfl) ?_
                refine GT_st rfl rfl rfl rfl (V_pick_f rfl rfl rfl) ?_
                refine GT_nil ?_
                first | refine GE_condNot rfl (fun h8 => ?_) (fun h8 => ?_) | refine GE_cond rfl (fun h8 => ?_) (fun h8 => ?_) | refine GE_condNotB rfl (fun h8 => ?_) (fun h8 => ?_) | refine GE_condB rfl (fun h8 => ?_) (fun h8 => ?_)
                · skip
                  refine GE_seq ?_
                  refine GE_slots (L' := []) trivial ?_
                  refine GE_plain (.st 0 (.st 1 .nil)) rfl ?_
                  refine GT_st rfl rfl rfl rfl (V_assign rfl rfl) ?_
                  refine GT_st rfl rfl rfl rfl (V_assign rfl rfl) ?_
                  refine GT_nil ?_
                  refine GE_ret Try.func17 ⟨_, _, rfl, rfl, rfl⟩ (fun w hw => ⟨?_, hw.nil⟩)
                  first | rw [hyes (by omega)] | rw [hno (by omega)]
                · skip
                  refine GE_skip ?_
                  refine GE_seq ?_
                  refine GE_slots (L' := [(0, _), (1, _), (2, _), (3, _)]) ⟨rfl, rfl, rfl, rfl, trivial⟩ ?_
                  refine GE_plain (.st 0 (.st 1 (.st 2 (.st 3 (.ld 4 [] (.st 5 (.st 6 .nil))))))) rfl ?_
                  refine GT_st rfl rfl rfl rfl (V_move rfl rfl) ?_
                  refine GT_st rfl rfl rfl rfl (V_move rfl rfl) ?_
                  refine GT_st rfl rfl rfl rfl (V_move rfl rfl) ?_
                  refine GT_st rfl rfl rfl rfl (V_move rfl rfl) ?_
                  refine GT_call0 rfl rfl rfl rfl rfl rfl rfl rfl rn_42 (fun w hw => C_ref09_ways (by omega) (by omega) (by omega) (by omega)) (GR_nil) ?_
                  refine GT_st rfl rfl rfl rfl (V_assign rfl rfl) ?_
                  refine GT_st rfl rfl rfl rfl (V_assign rfl rfl) ?_
                  refine GT_nil ?_
                  refine GE_ret Try.func17 ⟨_, _, rfl, rfl, rfl⟩ (fun w hw => ⟨?_, hw.nil⟩)
                  first | rw [hyes (by omega)] | rw [hno (by omega)]
theorem C_ref09_limits {d : Dmd} {w : World} : Con0 Try.prog 43 [I d.n, I d.g, I d.b, I d.r, I d.a] w (I d.chk) := by
  have hd : ∀ x : Int, ((x = 0 ∧ d.Ok) ∨ (x = 3 ∧ ¬ d.Ok)) → I x = I d.chk := fun x hx => congrArg I (by
    rcases hx with ⟨rfl, h⟩ | ⟨rfl, h⟩
    · exact (Dmd.chk_zero.2 h).symm
    · unfold Dmd.chk; rw [if_neg (fun q => h (Dmd.okB_iff.1 q))])
  refine Ret_of (vs := [_, _, _, _, _]) hm none' Try.func43 rfl Try.ntmps43 rfl ?_
  dsimp only [slotsOf]
  refine GE_seq ?_
  refine GE_plain (.st 0 .nil) rfl ?_
  refine GT_st rfl rfl rfl rfl (V_assign rfl rfl) ?_
  refine GT_nil ?_
  refine GE_seq ?_
  refine GE_seq ?_
  refine GE_plain (.st 0 (.st 1 (.st 2 (.st 3 (.st 4 (.st 5 (.st 6 (.st 7 (.st 8 (.st 9 (.st 10 (.st 11 (.st 12 (.st 13 (.st 14 (.st 15 (.st 16 (.st 17 (.st 18 (.st 19 (.st 20 (.st 21 (.st 22 (.st 23 (.st 24 (.st 25 (.st 26 (.st 27 (.st 28 (.st 29 (.st 30 (.st 31 (.st 32 (.st 33 (.st 34 (.st 35 .nil)))))))))))))))))))))))))))))))))))) rfl ?_
  refine GT_st rfl rfl rfl rfl (V_move rfl rfl) ?_
  refine GT_st rfl rfl rfl rfl (V_lss rfl rfl rfl) ?_
  refine GT_st rfl rfl rfl rfl (V_move rfl rfl) ?_
  first | refine GT_splitNot (d := 13) rfl (fun h1 => ?_) (fun h1 => ?_) | refine GT_split (d := 13) rfl (fun h1 => ?_) (fun h1 => ?_) | refine GT_splitNotB (d := 13) rfl (fun h1 => ?_) (fun h1 => ?_) | refine GT_splitB (d := 13) rfl (fun h1 => ?_) (fun h1 => ?_)
  · skip
    refine GT_skip rfl rfl rfl rfl rfl (by decide) rfl rfl ?_
    refine GT_skip rfl rfl rfl rfl rfl (by decide) rfl rfl ?_
    refine GT_st rfl rfl rfl rfl (V_pick_t rfl rfl rfl) ?_
    refine GT_st rfl rfl rfl rfl (V_move rfl rfl) ?_
    refine GT_skip rfl rfl rfl rfl rfl (by decide) rfl rfl ?_
    refine GT_skip rfl rfl rfl rfl rfl (by decide) rfl rfl ?_
    refine GT_st rfl rfl rfl rfl (V_pick_t rfl rfl rfl) ?_
    refine GT_st rfl rfl rfl rfl (V_move rfl rfl) ?_
    refine GT_skip rfl rfl rfl rfl rfl (by decide) rfl rfl ?_
    refine GT_skip rfl rfl rfl rfl rfl (by decide) rfl rfl ?_
    refine GT_skip rfl rfl rfl rfl rfl (by decide) rfl rfl ?_
    refine GT_st rfl rfl rfl rfl (V_pick_t rfl rfl rfl) ?_
    refine GT_st rfl rfl rfl rfl (V_move rfl rfl) ?_
    refine GT_skip rfl rfl rfl rfl rfl (by decide) rfl rfl ?_
    refine GT_skip rfl rfl rfl rfl rfl (by decide) rfl rfl ?_
    refine GT_skip rfl rfl rfl rfl rfl (by decide) rfl rfl ?_
    refine GT_st rfl rfl rfl rfl (V_pick_t rfl rfl rfl) ?_
    refine GT_st rfl rfl rfl rfl (V_move rfl rfl) ?_
    refine GT_skip rfl rfl rfl rfl rfl (by decide) rfl rfl ?_
    refine GT_skip rfl rfl rfl rfl rfl (by decide) rfl rfl ?_
    refine GT_st rfl rfl rfl rfl (V_pick_t rfl rfl rfl) ?_
    refine GT_st rfl rfl rfl rfl (V_move rfl rfl) ?_
    refine GT_skip rfl rfl rfl rfl rfl (by decide) rfl rfl ?_
    refine GT_skip rfl rfl rfl rfl rfl (by decide) rfl rfl ?_
    refine GT_st rfl rfl rfl rfl (V_pick_t rfl rfl rfl) ?_
    refine GT_st rfl rfl rfl rfl (V_move rfl rfl) ?_
    refine GT_skip rfl rfl rfl rfl rfl (by decide) rfl rfl ?_
    refine GT_skip rfl rfl rfl rfl rfl (by decide) rfl rfl ?_
    refine GT_st rfl rfl rfl rfl (V_pick_t rfl rfl rfl) ?_
    refine GT_st rfl rfl rfl rfl (V_move rfl rfl) ?_
    refine GT_skip rfl rfl rfl rfl rfl (by decide) rfl rfl ?_
    refine GT_skip rfl rfl rfl rfl rfl (by decide) rfl rfl ?_
    refine GT_st rfl rfl rfl rfl (V_pick_t rfl rfl rfl) ?_
    refine GT_nil ?_
    refine GE_cond_t rfl ?_
    refine GE_seq ?_
    refine GE_slots (L' := []) trivial ?_
    refine GE_plain (.st 0 .nil) rfl ?_
    refine GT_st rfl rfl rfl rfl (V_assign rfl rfl) ?_
    refine GT_nil ?_
    refine GE_ret Try.func43 rfl (fun w hw => ⟨?_, hw.nil⟩)
    first | exact hd _ (.inl ⟨rfl, ⟨by omega, by omega, by omega, by omega, by omega⟩⟩) | exact hd _ (.inr ⟨rfl, fun ⟨q1, q2, q3, q4, q5⟩ => by omega⟩)
  · skip
    refine GT_st_g rfl rfl rfl rfl rfl rfl rfl (V_move rfl rfl) ?_
    refine GT_st_g rfl rfl rfl rfl rfl rfl rfl (V_gtr rfl rfl rfl) ?_
    refine GT_st rfl rfl rfl rfl (V_pick_f rfl rfl rfl) ?_
    refine GT_st rfl rfl rfl rfl (V_move rfl rfl) ?_
    first | refine GT_splitNot (d := 17) rfl (fun h2 => ?_) (fun h2 => ?_) | refine GT_split (d := 17) rfl (fun h2 => ?_) (fun h2 => ?_) | refine GT_splitNotB (d := 17) rfl (fun h2 => ?_) (fun h2 => ?_) | refine GT_splitB (d := 17) rfl (fun h2 => ?_) (fun h2 => ?_)
    · skip
      refine GT_skip rfl rfl rfl rfl rfl (by decide) rfl rfl ?_
      refine GT_skip rfl rfl rfl rfl rfl (by decide) rfl rfl ?_
      refine GT_st rfl rfl rfl rfl (V_pick_t rfl rfl rfl) ?_
      refine GT_st rfl rfl rfl rfl (V_move rfl rfl) ?_
      refine GT_skip rfl rfl rfl rfl rfl (by decide) rfl rfl ?_
      refine GT_skip rfl rfl rfl rfl rfl (by decide) rfl rfl ?_
      refine GT_skip rfl rfl rfl rfl rfl (by decide) rfl rfl ?_
      refine GT_st rfl rfl rfl rfl (V_pick_t rfl rfl rfl) ?_
      refine GT_st rfl rfl rfl rfl (V_move rfl rfl) ?_
      refine GT_skip rfl rfl rfl rfl rfl (by decide) rfl rfl ?_
      refine GT_skip rfl rfl rfl rfl rfl (by decide) rfl rfl ?_
      refine GT_skip rfl rfl rfl rfl rfl (by decide) rfl rfl ?_
      refine GT_st rfl rfl rfl rfl (V_pick_t rfl rfl rfl) ?_
      refine GT_st rfl rfl rfl rfl (V_move rfl rfl) ?_
      refine GT_skip rfl rfl rfl rfl rfl (by decide) rfl rfl ?_
      refine GT_skip rfl rfl rfl rfl rfl (by decide) rfl rfl ?_
      refine GT_st rfl rfl rfl rfl (V_pick_t rfl rfl rfl) ?_
      refine GT_st rfl rfl rfl rfl (V_move rfl rfl) ?_
      refine GT_skip rfl rfl rfl rfl rfl (by decide) rfl rfl ?_
      refine GT_skip rfl rfl rfl rfl rfl (by decide) rfl rfl ?_
      refine GT_st rfl rfl rfl rfl (V_pick_t rfl rfl rfl) ?_
      refine GT_st rfl rfl rfl rfl (V_move rfl rfl) ?_
      refine GT_skip rfl rfl rfl rfl rfl (by decide) rfl rfl ?_
      refine GT_skip rfl rfl rfl rfl rfl (by decide) rfl rfl ?_
      refine GT_st rfl rfl rfl rfl (V_pick_t rfl rfl rfl) ?_
      refine GT_st rfl rfl rfl rfl (V_move rfl rfl) ?_
      refine GT_skip rfl rfl rfl rfl rfl (by decide) rfl rfl ?_
      refine GT_skip rfl rfl rfl rfl rfl (by decide) rfl rfl ?_
      refine GT_st rfl rfl rfl rfl (V_pick_t rfl rfl rfl) ?_
      refine GT_nil ?_
      refine GE_cond_t rfl ?_
      refine GE_seq ?_
      refine GE_slots (L' := []) trivial ?_
      refine GE_plain (.st 0 .nil) rfl ?_
      refine GT_st rfl rfl rfl rfl (V_assign rfl rfl) ?_
      refine GT_nil ?_
      refine GE_ret Try.func43 rfl (fun w hw => ⟨?_, hw.nil⟩)
      first | exact hd _ (.inl ⟨rfl, ⟨by omega, by omega, by omega, by omega, by omega⟩⟩) | exact hd _ (.inr ⟨rfl, fun ⟨q1, q2, q3, q4, q5⟩ => by omega⟩)
    · skip
      refine GT_st_g rfl rfl rfl rfl rfl rfl rfl (V_move rfl rfl) ?_
      refine GT_st_g rfl rfl rfl rfl rfl rfl rfl (V_lss rfl rfl rfl) ?_
      refine GT_st rfl rfl rfl rfl (V_pick_f rfl rfl rfl) ?_
      refine GT_st rfl rfl rfl rfl (V_move rfl rfl) ?_
      first | refine GT_splitNot (d := 21) rfl (fun h3 => ?_) (fun h3 => ?_) | refine GT_split (d := 21) rfl (fun h3 => ?_) (fun h3 => ?_) | refine GT_splitNotB (d := 21) rfl (fun h3 => ?_) (fun h3 => ?_) | refine GT_splitB (d := 21) rfl (fun h3 => ?_) (fun h3 => ?_)
      · skip
        refine GT_skip rfl rfl rfl rfl rfl (by decide) rfl rfl ?_
        refine GT_skip rfl rfl rfl rfl rfl (by decide) rfl rfl ?_
        refine GT_skip rfl rfl rfl rfl rfl (by decide) rfl rfl ?_
        refine GT_st rfl rfl rfl rfl (V_pick_t rfl rfl rfl) ?_
        refine GT_st rfl rfl rfl rfl (V_move rfl rfl) ?_
        refine GT_skip rfl rfl rfl rfl rfl (by decide) rfl rfl ?_
        refine GT_skip rfl rfl rfl rfl rfl (by decide) rfl rfl ?_
        refine GT_skip rfl rfl rfl rfl rfl (by decide) rfl rfl ?_
        refine GT_st rfl rfl rfl rfl (V_pick_t rfl rfl rfl) ?_
        refine GT_st rfl rfl rfl rfl (V_move rfl rfl) ?_
        refine GT_skip rfl rfl rfl rfl rfl (by decide) rfl rfl ?_
        refine GT_skip rfl rfl rfl rfl rfl (by decide) rfl rfl ?_
        refine GT_st rfl rfl rfl rfl (V_pick_t rfl rfl rfl) ?_
        refine GT_st rfl rfl rfl rfl (V_move rfl rfl) ?_
        refine GT_skip rfl rfl rfl rfl rfl (by decide) rfl rfl ?_
        refine GT_skip rfl rfl rfl rfl rfl (by decide) rfl rfl ?_
        refine GT_st rfl rfl rfl rfl (V_pick_t rfl rfl rfl) ?_
        refine GT_st rfl rfl rfl rfl (V_move rfl rfl) ?_
        refine GT_skip rfl rfl rfl rfl rfl (by decide) rfl rfl ?_
        refine GT_skip rfl rfl rfl rfl rfl (by decide) rfl rfl ?_
        refine GT_st rfl rfl rfl rfl (V_pick_t rfl rfl rfl) ?_
        refine GT_st rfl rfl rfl rfl (V_move rfl rfl) ?_
        refine GT_skip rfl rfl rfl rfl rfl (by decide) rfl rfl ?_
        refine GT_skip rfl rfl rfl rfl rfl (by decide) rfl rfl ?_
        refine GT_st rfl rfl rfl rfl (V_pick_t rfl rfl rfl) ?_
        refine GT_nil ?_
        refine GE_cond_t rfl ?_
        refine GE_seq ?_
        refine GE_slots (L' := []) trivial ?_
        refine GE_plain (.st 0 .nil) rfl ?_
        refine GT_st rfl rfl rfl rfl (V_assign rfl rfl) ?_
        refine GT_nil ?_
        refine GE_ret Try.func43 rfl (fun w hw => ⟨?_, hw.nil⟩)
        first | exact hd _ (.inl ⟨rfl, ⟨by omega, by omega, by omega, by omega, by omega⟩⟩) | exact hd _ (.inr ⟨rfl, fun ⟨q1, q2, q3, q4, q5⟩ => by omega⟩)
      · skip
        refine GT_st_g rfl rfl rfl rfl rfl rfl rfl (V_move rfl rfl) ?_
        refine GT_st_g rfl rfl rfl rfl rfl rfl rfl (V_move rfl rfl) ?_
        refine GT_st_g rfl rfl rfl rfl rfl rfl rfl (V_leq rfl rfl rfl) ?_
        refine GT_st rfl rfl rfl rfl (V_pick_f rfl rfl rfl) ?_
        refine GT_st rfl rfl rfl rfl (V_move rfl rfl) ?_
        first | refine GT_splitNot (d := 26) rfl (fun h4 => ?_) (fun h4 => ?_) | refine GT_split (d := 26) rfl (fun h4 => ?_) (fun h4 => ?_) | refine GT_splitNotB (d := 26) rfl (fun h4 => ?_) (fun h4 => ?_) | refine GT_splitB (d := 26) rfl (fun h4 => ?_) (fun h4 => ?_)
        · skip
          refine GT_skip rfl rfl rfl rfl rfl (by decide) rfl rfl ?_
          refine GT_skip rfl rfl rfl rfl rfl (by decide) rfl rfl ?_
          refine GT_skip rfl rfl rfl rfl rfl (by decide) rfl rfl ?_
          refine GT_st rfl rfl rfl rfl (V_pick_t rfl rfl rfl) ?_
          refine GT_st rfl rfl rfl rfl (V_move rfl rfl) ?_
          refine GT_skip rfl rfl rfl rfl rfl (by decide) rfl rfl ?_
          refine GT_skip rfl rfl rfl rfl rfl (by decide) rfl rfl ?_
          refine GT_st rfl rfl rfl rfl (V_pick_t rfl rfl rfl) ?_
          refine GT_st rfl rfl rfl rfl (V_move rfl rfl) ?_
          refine GT_skip rfl rfl rfl rfl rfl (by decide) rfl rfl ?_
          refine GT_skip rfl rfl rfl rfl rfl (by decide) rfl rfl ?_
          refine GT_st rfl rfl rfl rfl (V_pick_t rfl rfl rfl) ?_
          refine GT_st rfl rfl rfl rfl (V_move rfl rfl) ?_
          refine GT_skip rfl rfl rfl rfl rfl (by decide) rfl rfl ?_
          refine GT_skip rfl rfl rfl rfl rfl (by decide) rfl rfl ?_
          refine GT_st rfl rfl rfl rfl (V_pick_t rfl rfl rfl) ?_
          refine GT_st rfl rfl rfl rfl (V_move rfl rfl) ?_
          refine GT_skip rfl rfl rfl rfl rfl (by decide) rfl rfl ?_
          refine GT_skip rfl rfl rfl rfl rfl (by decide) rfl rfl ?_
          refine GT_st rfl rfl rfl rfl (V_pick_t rfl rfl rfl) ?_
          refine GT_nil ?_
          refine GE_cond_t rfl ?_
          refine GE_seq ?_
          refine GE_slots (L' := []) trivial ?_
          refine GE_plain (.st 0 .nil) rfl ?_
          refine GT_st rfl rfl rfl rfl (V_assign rfl rfl) ?_
          refine GT_nil ?_
          refine GE_ret Try.func43 rfl (fun w hw => ⟨?_, hw.nil⟩)
          first | exact hd _ (.inl ⟨rfl, ⟨by omega, by omega, by omega, by omega, by omega⟩⟩) | exact hd _ (.inr ⟨rfl, fun ⟨q1, q2, q3, q4, q5⟩ => by omega⟩)
        · skip
          refine GT_st_g rfl rfl rfl rfl rfl rfl rfl (V_move rfl rfl) ?_
          refine GT_st_g rfl rfl rfl rfl rfl rfl rfl (V_move rfl rfl) ?_
          refine GT_st_g rfl rfl rfl rfl rfl rfl rfl (V_gtr rfl rfl rfl) ?_
          refine GT_st rfl rfl rfl rfl (V_pick_f rfl rfl rfl) ?_
          refine GT_st rfl rfl rfl rfl (V_move rfl rfl) ?_
          first | refine GT_splitNot (d := 31) rfl (fun h5 => ?_) (fun h5 => ?_) | refine GT_split (d := 31) rfl (fun h5 => ?_) (fun h5 => ?_) | refine GT_splitNotB (d := 31) rfl (fun h5 => ?_) (fun h5 => ?_) | refine GT_splitB (d := 31) rfl (fun h5 => ?_) (fun h5 => ?_)
          · skip
            refine GT_skip rfl rfl rfl rfl rfl (by decide) rfl rfl ?_
            refine GT_skip rfl rfl rfl rfl rfl (by decide) rfl rfl ?_
            refine GT_st rfl rfl rfl rfl (V_pick_t rfl rfl rfl) ?_
            refine GT_st rfl rfl rfl rfl (V_move rfl rfl) ?_
            refine GT_skip rfl rfl rfl rfl rfl (by decide) rfl rfl ?_
            refine GT_skip rfl rfl rfl rfl rfl (by decide) rfl rfl ?_
            refine GT_st rfl rfl rfl rfl (V_pick_t rfl rfl rfl) ?_
            refine GT_st rfl rfl rfl rfl (V_move rfl rfl) ?_
            refine GT_skip rfl rfl rfl rfl rfl (by decide) rfl rfl ?_
            refine GT_skip rfl rfl rfl rfl rfl (by decide) rfl rfl ?_
            refine GT_st rfl rfl rfl rfl (V_pick_t rfl rfl rfl) ?_
            refine GT_st rfl rfl rfl rfl (V_move rfl rfl) ?_
            refine GT_skip rfl rfl rfl rfl rfl (by decide) rfl rfl ?_
            refine GT_skip rfl rfl rfl rfl rfl (by decide) rfl rfl ?_
            refine GT_st rfl rfl rfl rfl (V_pick_t rfl rfl rfl) ?_
            refine GT_nil ?_
            refine GE_cond_t rfl ?_
            refine GE_seq ?_
            refine GE_slots (L' := []) trivial ?_
            refine GE_plain (.st 0 .nil) rfl ?_
            refine GT_st rfl rfl rfl rfl (V_assign rfl rfl) ?_
            refine GT_nil ?_
            refine GE_ret Try.func43 rfl (fun w hw => ⟨?_, hw.nil⟩)
            first | exact hd _ (.inl ⟨rfl, ⟨by omega, by omega, by omega, by omega, by omega⟩⟩) | exact hd _ (.inr ⟨rfl, fun ⟨q1, q2, q3, q4, q5⟩ => by omega⟩)
          · skip
            refine GT_st_g rfl rfl rfl rfl rfl rfl rfl (V_move rfl rfl) ?_
            refine GT_st_g rfl rfl rfl rfl rfl rfl rfl (V_lss rfl rfl rfl) ?_
            refine GT_st rfl rfl rfl rfl (V_pick_f rfl rfl rfl) ?_
            refine GT_st rfl rfl rfl rfl (V_move rfl rfl) ?_
            first | refine GT_splitNot (d := 35) rfl (fun h6 => ?_) (fun h6 => ?_) | refine GT_split (d := 35) rfl (fun h6 => ?_) (fun h6 => ?_) | refine GT_splitNotB (d := 35) rfl (fun h6 => ?_) (fun h6 => ?_) | refine GT_splitB (d := 35) rfl (fun h6 => ?_) (fun h6 => ?_)
            · skip
              refine GT_skip rfl rfl rfl rfl rfl (by decide) rfl rfl ?_
              refine GT_skip rfl rfl rfl rfl rfl (by decide) rfl rfl ?_
              refine GT_st rfl rfl rfl rfl (V_pick_t rfl rfl rfl) ?_
              refine GT_st rfl rfl rfl rfl (V_move rfl rfl) ?_
              refine GT_skip rfl rfl rfl rfl rfl (by decide) rfl rfl ?_
              refine GT_skip rfl rfl rfl rfl rfl (by decide) rfl rfl ?_
              refine GT_st rfl rfl rfl rfl (V_pick_t rfl rfl rfl) ?_
              refine GT_st rfl rfl rfl rfl (V_move rfl rfl) ?_
              refine GT_skip rfl rfl rfl rfl rfl (by decide) rfl rfl ?_
              refine GT_skip rfl rfl rfl rfl rfl (by decide) rfl rfl ?_
              refine GT_st rfl rfl rfl rfl (V_pick_t rfl rfl rfl) ?_
              refine GT_nil ?_
              refine GE_cond_t rfl ?_
              refine GE_seq ?_
              refine GE_slots (L' := []) trivial ?_
              refine GE_plain (.st 0 .nil) rfl ?_
              refine GT_st rfl rfl rfl rfl (V_assign rfl rfl) ?_
              refine GT_nil ?_
              refine GE_ret Try.func43 rfl (fun w hw => ⟨?_, hw.nil⟩)
              first | exact hd _ (.inl ⟨rfl, ⟨by omega, by omega, by omega, by omega, by omega⟩⟩) | exact hd _ (.inr ⟨rfl, fun ⟨q1, q2, q3, q4, q5⟩ => by omega⟩)
            · skip
              refine GT_st_g rfl rfl rfl rfl rfl rfl rfl (V_move rfl rfl) ?_
              refine GT_st_g rfl rfl rfl rfl rfl rfl rfl (V_gtr rfl rfl rfl) ?_
              refine GT_st rfl rfl rfl rfl (V_pick_f rfl rfl rfl) ?_
              refine GT_st rfl rfl rfl rfl (V_move rfl rfl) ?_
              first | refine GT_splitNot (d := 39) rfl (fun h7 => ?_) (fun h7 => ?_) | refine GT_split (d := 39) rfl (fun h7 => ?_) (fun h7 => ?_) | refine GT_splitNotB (d := 39) rfl (fun h7 => ?_) (fun h7 => ?_) | refine GT_splitB (d := 39) rfl (fun h7 => ?_) (fun h7 => ?_)
              · skip
                refine GT_skip rfl rfl rfl rfl rfl (by decide) rfl rfl ?_
                refine GT_skip rfl rfl rfl rfl rfl (by decide) rfl rfl ?_
                refine GT_st rfl rfl rfl rfl (V_pick_t rfl rfl rfl) ?_
                refine GT_st rfl rfl rfl rfl (V_move rfl rfl) ?_
                refine GT_skip rfl rfl rfl rfl rfl (by decide) rfl rfl ?_
                refine GT_skip rfl rfl rfl rfl rfl (by decide) rfl rfl ?_
                refine GT_st rfl rfl rfl rfl (V_pick_t rfl rfl rfl) ?_
                refine GT_nil ?_
                refine GE_cond_t rfl ?_
                refine GE_seq ?_
                refine GE_slots (L' := []) trivial ?_
                refine GE_plain (.st 0 .nil) rfl ?_
                refine GT_st rfl rfl rfl rfl (V_assign rfl rfl) ?_
                refine GT_nil ?_
                refine GE_ret Try.func43 rfl (fun w hw => ⟨?_, hw.nil⟩)
                first | exact hd _ (.inl ⟨rfl, ⟨by omega, by omega, by omega, by omega, by omega⟩⟩) | exact hd _ (.inr ⟨rfl, fun ⟨q1, q2, q3, q4, q5⟩ => by omega⟩)
              · skip
                refine GT_st_g rfl rfl rfl rfl rfl rfl rfl (V_move rfl rfl) ?_
                refine GT_st_g rfl rfl rfl rfl rfl rfl rfl (V_lss rfl rfl rfl) ?_
                refine GT_st rfl rfl rfl rfl (V_pick_f rfl rfl rfl) ?_
                refine GT_st rfl rfl rfl rfl (V_move rfl rfl) ?_
                first | refine GT_splitNot (d := 43) rfl (fun h8 => ?_) (fun h8 => ?_) | refine GT_split (d := 43) rfl (fun h8 => ?_) (fun h8 => ?_) | refine GT_splitNotB (d := 43) rfl (fun h8 => ?_) (fun h8 => ?_) | refine GT_splitB (d := 43) rfl (fun h8 => ?_) (fun h8 => ?_)
                · skip
                  refine GT_skip rfl rfl rfl rfl rfl (by decide) rfl rfl ?_
                  refine GT_skip rfl rfl rfl rfl rfl (by decide) rfl rfl ?_
                  refine GT_st rfl rfl rfl rfl (V_pick_t rfl rfl rfl) ?_
                  refine GT_nil ?_
                  refine GE_cond_t rfl ?_
                  refine GE_seq ?_
                  refine GE_slots (L' := []) trivial ?_
                  refine GE_plain (.st 0 .nil) rfl ?_
                  refine GT_st rfl rfl rfl rfl (V_assign rfl rfl) ?_
                  refine GT_nil ?_
                  refine GE_ret Try.func43 rfl (fun w hw => ⟨?_, hw.nil⟩)
                  first | exact hd _ (.inl ⟨rfl, ⟨by omega, by omega, by omega, by omega, by omega⟩⟩) | exact hd _ (.inr ⟨rfl, fun ⟨q1, q2, q3, q4, q5⟩ => by omega⟩)
                · skip
                  refine GT_st_g rfl rfl rfl rfl rfl rfl rfl (V_move rfl rfl) ?_
                  refine GT_st_g rfl rfl rfl rfl rfl rfl rfl (V_gtr rfl rfl rfl) ?_
                  refine GT_st rfl rfl rfl rfl (V_pick_f rfl rfl rfl) ?_
                  refine GT_nil ?_
                  first | refine GE_condNot rfl (fun h9 => ?_) (fun h9 => ?_) | refine GE_cond rfl (fun h9 => ?_) (fun h9 => ?_) | refine GE_condNotB rfl (fun h9 => ?_) (fun h9 => ?_) | refine GE_condB rfl (fun h9 => ?_) (fun h9 => ?_)
                  · skip
                    refine GE_seq ?_
                    refine GE_slots (L' := []) trivial ?_
                    refine GE_plain (.st 0 .nil) rfl ?_
                    refine GT_st rfl rfl rfl rfl (V_assign rfl rfl) ?_
                    refine GT_nil ?_
                    refine GE_ret Try.func43 rfl (fun w hw => ⟨?_, hw.nil⟩)
                    first | exact hd _ (.inl ⟨rfl, ⟨by omega, by omega, by omega, by omega, by omega⟩⟩) | exact hd _ (.inr ⟨rfl, fun ⟨q1, q2, q3, q4, q5⟩ => by omega⟩)
                  · skip
                    refine GE_skip ?_
                    refine GE_seq ?_
                    refine GE_slots (L' := []) trivial ?_
                    refine GE_plain (.st 0 .nil) rfl ?_
                    refine GT_st rfl rfl rfl rfl (V_assign rfl rfl) ?_
                    refine GT_nil ?_
                    refine GE_ret Try.func43 rfl (fun w hw => ⟨?_, hw.nil⟩)
                    first | exact hd _ (.inl ⟨rfl, ⟨by omega, by omega, by omega, by omega, by omega⟩⟩) | exact hd _ (.inr ⟨rfl, fun ⟨q1, q2, q3, q4, q5⟩ => by omega⟩)
theorem C_ref09_holds {d : Dmd} {s c : Int} {w : World} (hd : d.Ok) (hs : 0 ≤ s ∧ s ≤ d.n) (hc : -1 ≤ c ∧ c ≤ d.n) :
    Con0 Try.prog 44 [I d.n, I d.g, I d.b, I d.r, I d.a, I s, I c] w (.bool (d.hold s c)) := by
  obtain ⟨hn, hg, hb, hr, ha⟩ := hd
  have hall := choo_bd (n := d.n) (s := s) hn.2
  have hw1 := ways_bd (n := d.n) (b := d.g) (s := s) (c := c) (by omega)
  have hw2 := ways_bd (n := d.n) (b := d.b) (s := s) (c := c) (by omega)
  have m1 : 0 ≤ d.r * choo d.n s ∧ d.r * choo d.n s ≤ 1000 * 1125899906842624 := ⟨Int.mul_nonneg hr.1 hall.1, Int.mul_le_mul hr.2 hall.2 hall.1 (by decide)⟩
  have m2 : 0 ≤ d.a * choo d.n s ∧ d.a * choo d.n s ≤ 1000 * 1125899906842624 := ⟨Int.mul_nonneg ha.1 hall.1, Int.mul_le_mul ha.2 hall.2 hall.1 (by decide)⟩
  have hfin : ∀ q : Bool, ((1000 * (choo d.n s - ways d.n d.g s c) ≤ d.r * choo d.n s ∧ 1000 * ways d.n d.b s c ≤ d.a * choo d.n s) ↔ q = true) → Value.bool q = Value.bool (d.hold s c) := fun q hq => congrArg Value.bool (by
    rw [Bool.eq_iff_iff, ← hq]; unfold Dmd.hold; simp)
  refine Ret_of (vs := [_, _, _, _, _, _, _]) hm none' Try.func44 rfl Try.ntmps44 rfl ?_
  dsimp only [slotsOf]
  refine GE_seq ?_
  refine GE_plain (.st 0 .nil) rfl ?_
  refine GT_st rfl rfl rfl rfl (V_assign rfl rfl) ?_
  refine GT_nil ?_
  refine GE_seq ?_
  refine GE_plain (.st 0 (.st 1 (.ld 2 [] (.st 3 .nil)))) rfl ?_
  refine GT_st rfl rfl rfl rfl (V_move rfl rfl) ?_
  refine GT_st rfl rfl rfl rfl (V_move rfl rfl) ?_
  refine GT_call0 rfl rfl rfl rfl rfl rfl rfl rfl rn_41 (fun w hw => C_ref09_choose hn) (GR_nil) ?_
  rw [cho_choo hs.1]
  refine GT_st rfl rfl rfl rfl (V_assign rfl rfl) ?_
  refine GT_nil ?_
  refine GE_seq ?_
  refine GE_slots (L' := [(0, _), (1, _), (2, _), (3, _), (4, _), (5, _), (6, _), (15, _)]) ⟨rfl, rfl, rfl, rfl, rfl, rfl, rfl, rfl, trivial⟩ ?_
  refine GE_plain (.st 0 (.st 1 (.st 2 (.st 3 (.st 4 (.ld 5 [] (.st 6 (.st 7 (.st 8 (.st 9 (.st 10 (.st 11 (.st 12 (.st 13 (.st 14 (.st 15 (.st 16 (.ld 17 [] (.st 18 (.st 19 (.st 20 (.st 21 (.st 22 (.st 23 (.st 24 .nil))))))))))))))))))))))))) rfl ?_
  refine GT_st rfl rfl rfl rfl (V_move rfl rfl) ?_
  refine GT_st rfl rfl rfl rfl (V_move rfl rfl) ?_
  refine GT_st rfl rfl rfl rfl (V_move rfl rfl) ?_
  refine GT_st rfl rfl rfl rfl (V_move rfl rfl) ?_
  refine GT_st rfl rfl rfl rfl (V_move rfl rfl) ?_
  refine GT_call0 rfl rfl rfl rfl rfl rfl rfl rfl rn_42 (fun w hw => C_ref09_ways hn (by omega) hs hc) (GR_nil) ?_
  refine GT_st rfl rfl rfl rfl (V_sub rfl rfl rfl (wrap_i64 (by omega))) ?_
  refine GT_st rfl rfl rfl rfl (V_mul rfl rfl rfl (wrap_i64 (by omega))) ?_
  refine GT_st rfl rfl rfl rfl (V_move rfl rfl) ?_
  refine GT_st rfl rfl rfl rfl (V_move rfl rfl) ?_
  refine GT_st rfl rfl rfl rfl (V_mul rfl rfl rfl (wrap_i64 (by omega))) ?_
  refine GT_st rfl rfl rfl rfl (V_leq rfl rfl rfl) ?_
  refine GT_st rfl rfl rfl rfl (V_move rfl rfl) ?_
  first | refine GT_splitNot (d := 31) rfl (fun h1 => ?_) (fun h1 => ?_) | refine GT_split (d := 31) rfl (fun h1 => ?_) (fun h1 => ?_) | refine GT_splitNotB (d := 31) rfl (fun h1 => ?_) (fun h1 => ?_) | refine GT_splitB (d := 31) rfl (fun h1 => ?_) (fun h1 => ?_)
  · skip
    refine GT_st_g rfl rfl rfl rfl rfl rfl rfl (V_move rfl rfl) ?_
    refine GT_st_g rfl rfl rfl rfl rfl rfl rfl (V_move rfl rfl) ?_
    refine GT_st_g rfl rfl rfl rfl rfl rfl rfl (V_move rfl rfl) ?_
    refine GT_st_g rfl rfl rfl rfl rfl rfl rfl (V_move rfl rfl) ?_
    refine GT_call0_g rfl rfl rfl rfl rfl rfl rfl rfl rfl rfl rfl rn_42 (fun w hw => C_ref09_ways hn (by omega) hs hc) (GR_nil) ?_
    refine GT_st_g rfl rfl rfl rfl rfl rfl rfl (V_mul rfl rfl rfl (wrap_i64 (by omega))) ?_
    refine GT_st_g rfl rfl rfl rfl rfl rfl rfl (V_move rfl rfl) ?_
    refine GT_st_g rfl rfl rfl rfl rfl rfl rfl (V_move rfl rfl) ?_
    refine GT_st_g rfl rfl rfl rfl rfl rfl rfl (V_mul rfl rfl rfl (wrap_i64 (by omega))) ?_
    refine GT_st_g rfl rfl rfl rfl rfl rfl rfl (V_leq rfl rfl rfl) ?_
    refine GT_st rfl rfl rfl rfl (V_pick_t rfl rfl rfl) ?_
    refine GT_st rfl rfl rfl rfl (V_assign rfl rfl) ?_
    refine GT_nil ?_
    refine GE_ret Try.func44 rfl (fun w hw => ⟨?_, hw.nil⟩)
    refine hfin _ ?_; (first | (simp; done) | (simp; omega))
  · skip
    refine GT_skip rfl rfl rfl rfl rfl (by decide) rfl rfl ?_
    refine GT_skip rfl rfl rfl rfl rfl (by decide) rfl rfl ?_
    refine GT_skip rfl rfl rfl rfl rfl (by decide) rfl rfl ?_
    refine GT_skip rfl rfl rfl rfl rfl (by decide) rfl rfl ?_
    refine GT_skip_ld rfl rfl rfl rfl rfl (by decide) rfl rfl rfl (GR_nil) ?_
    refine GT_skip rfl rfl rfl rfl rfl (by decide) rfl rfl ?_
    refine GT_skip rfl rfl rfl rfl rfl (by decide) rfl rfl ?_
    refine GT_skip rfl rfl rfl rfl rfl (by decide) rfl rfl ?_
    refine GT_skip rfl rfl rfl rfl rfl (by decide) rfl rfl ?_
    refine GT_skip rfl rfl rfl rfl rfl (by decide) rfl rfl ?_
    refine GT_st rfl rfl rfl rfl (V_pick_f rfl rfl rfl) ?_
    refine GT_st rfl rfl rfl rfl (V_assign rfl rfl) ?_
    refine GT_nil ?_
    refine GE_ret Try.func44 rfl (fun w hw => ⟨?_, hw.nil⟩)
    refine hfin _ ?_; (first | (simp; done) | (simp; omega))
theorem C_ref09_Holds {d : Dmd} {s c : Int} {w : World} : Con0 Try.prog 18 [I d.n, I d.g, I d.b, I d.r, I d.a, I s, I c] w (.tuple #[.bool (holdsR d s c).1, I (holdsR d s c).2]) := by
  have hno : ¬ ((d.okB = true ∧ 0 ≤ s ∧ s ≤ d.n) ∧ -1 ≤ c ∧ c ≤ d.n) → holdsR d s c = (false, 3) := fun h => if_neg (by simp only [Bool.and_eq_true, betw_iff]; exact h)
  have hyes : (d.okB = true ∧ 0 ≤ s ∧ s ≤ d.n) ∧ -1 ≤ c ∧ c ≤ d.n → holdsR d s c = (d.hold s c, 0) := fun h => if_pos (by simp only [Bool.and_eq_true, betw_iff]; exact h)
  refine Ret_of (vs := [_, _, _, _, _, _, _]) hm none' Try.func18 rfl Try.ntmps18 rfl ?_
  dsimp only [slotsOf]
  refine GE_seq ?_
  refine GE_plain (.st 0 (.st 1 .nil)) rfl ?_
  refine GT_st rfl rfl rfl rfl (V_assign rfl rfl) ?_
  refine GT_st rfl rfl rfl rfl (V_assign rfl rfl) ?_
  refine GT_nil ?_
  refine GE_seq ?_
  refine GE_seq ?_
  refine GE_plain (.st 0 (.st 1 (.st 2 (.st 3 (.st 4 (.ld 5 [] (.st 6 (.st 7 (.st 8 (.st 9 (.st 10 (.st 11 (.st 12 (.st 13 (.st 14 (.st 15 (.st 16 (.st 17 (.st 18 (.st 19 (.st 20 (.st 21 (.st 22 (.st 23 (.st 24 .nil))))))))))))))))))))))))) rfl ?_
  refine GT_st rfl rfl rfl rfl (V_move rfl rfl) ?_
  refine GT_st rfl rfl rfl rfl (V_move rfl rfl) ?_
  refine GT_st rfl rfl rfl rfl (V_move rfl rfl) ?_
  refine GT_st rfl rfl rfl rfl (V_move rfl rfl) ?_
  refine GT_st rfl rfl rfl rfl (V_move rfl rfl) ?_
  refine GT_call0 rfl rfl rfl rfl rfl rfl rfl rfl rn_43 (fun w hw => C_ref09_limits (d := d)) (GR_nil) ?_
  refine GT_st rfl rfl rfl rfl (V_neq rfl rfl rfl) ?_
  refine GT_st rfl rfl rfl rfl (V_move rfl rfl) ?_
  first | refine GT_splitNot (d := 23) rfl (fun h1 => ?_) (fun h1 => ?_) | refine GT_split (d := 23) rfl (fun h1 => ?_) (fun h1 => ?_) | refine GT_splitNotB (d := 23) rfl (fun h1 => ?_) (fun h1 => ?_) | refine GT_splitB (d := 23) rfl (fun h1 => ?_) (fun h1 => ?_)
  · have e1 : ¬ d.okB = true := (fun h => h1 (Dmd.chk_zero.2 (Dmd.okB_iff.1 h)))
    refine GT_skip rfl rfl rfl rfl rfl (by decide) rfl rfl ?_
    refine GT_skip rfl rfl rfl rfl rfl (by decide) rfl rfl ?_
    refine GT_st rfl rfl rfl rfl (V_pick_t rfl rfl rfl) ?_
    refine GT_st rfl rfl rfl rfl (V_move rfl rfl) ?_
    refine GT_skip rfl rfl rfl rfl rfl (by decide) rfl rfl ?_
    refine GT_skip rfl rfl rfl rfl rfl (by decide) rfl rfl ?_
    refine GT_skip rfl rfl rfl rfl rfl (by decide) rfl rfl ?_
    refine GT_st rfl rfl rfl rfl (V_pick_t rfl rfl rfl) ?_
    refine GT_st rfl rfl rfl rfl (V_move rfl rfl) ?_
    refine GT_skip rfl rfl rfl rfl rfl (by decide) rfl rfl ?_
    refine GT_skip rfl rfl rfl rfl rfl (by decide) rfl rfl ?_
    refine GT_st rfl rfl rfl rfl (V_pick_t rfl rfl rfl) ?_
    refine GT_st rfl rfl rfl rfl (V_move rfl rfl) ?_
    refine GT_skip rfl rfl rfl rfl rfl (by decide) rfl rfl ?_
    refine GT_skip rfl rfl rfl rfl rfl (by decide) rfl rfl ?_
    refine GT_skip rfl rfl rfl rfl rfl (by decide) rfl rfl ?_
    refine GT_st rfl rfl rfl rfl (V_pick_t rfl rfl rfl) ?_
    refine GT_nil ?_
    refine GE_cond_t rfl ?_
    refine GE_seq ?_
    refine GE_slots (L' := []) trivial ?_
    refine GE_plain (.st 0 (.st 1 .nil)) rfl ?_
    refine GT_st rfl rfl rfl rfl (V_assign rfl rfl) ?_
    refine GT_st rfl rfl rfl rfl (V_assign rfl rfl) ?_
    refine GT_nil ?_
    refine GE_ret Try.func18 ⟨_, _, rfl, rfl, rfl⟩ (fun w hw => ⟨?_, hw.nil⟩)
    first | rw [hyes ⟨⟨e1, by omega⟩, by omega⟩] | rw [hno (fun ⟨⟨q1, q2⟩, q3⟩ => (by first | exact e1 q1 | omega))]
  · have hd := Dmd.chk_zero.1 h1; have e1 := Dmd.okB_iff.2 hd
    refine GT_st_g rfl rfl rfl rfl rfl rfl rfl (V_move rfl rfl) ?_
    refine GT_st_g rfl rfl rfl rfl rfl rfl rfl (V_lss rfl rfl rfl) ?_
    refine GT_st rfl rfl rfl rfl (V_pick_f rfl rfl rfl) ?_
    refine GT_st rfl rfl rfl rfl (V_move rfl rfl) ?_
    first | refine GT_splitNot (d := 27) rfl (fun h1 => ?_) (fun h1 => ?_) | refine GT_split (d := 27) rfl (fun h1 => ?_) (fun h1 => ?_) | refine GT_splitNotB (d := 27) rfl (fun h1 => ?_) (fun h1 => ?_) | refine GT_splitB (d := 27) rfl (fun h1 => ?_) (fun h1 => ?_)
    · skip
      refine GT_skip rfl rfl rfl rfl rfl (by decide) rfl rfl ?_
      refine GT_skip rfl rfl rfl rfl rfl (by decide) rfl rfl ?_
      refine GT_skip rfl rfl rfl rfl rfl (by decide) rfl rfl ?_
      refine GT_st rfl rfl rfl rfl (V_pick_t rfl rfl rfl) ?_
      refine GT_st rfl rfl rfl rfl (V_move rfl rfl) ?_
      refine GT_skip rfl rfl rfl rfl rfl (by decide) rfl rfl ?_
      refine GT_skip rfl rfl rfl rfl rfl (by decide) rfl rfl ?_
      refine GT_st rfl rfl rfl rfl (V_pick_t rfl rfl rfl) ?_
      refine GT_st rfl rfl rfl rfl (V_move rfl rfl) ?_
      refine GT_skip rfl rfl rfl rfl rfl (by decide) rfl rfl ?_
      refine GT_skip rfl rfl rfl rfl rfl (by decide) rfl rfl ?_
      refine GT_skip rfl rfl rfl rfl rfl (by decide) rfl rfl ?_
      refine GT_st rfl rfl rfl rfl (V_pick_t rfl rfl rfl) ?_
      refine GT_nil ?_
      refine GE_cond_t rfl ?_
      refine GE_seq ?_
      refine GE_slots (L' := []) trivial ?_
      refine GE_plain (.st 0 (.st 1 .nil)) rfl ?_
      refine GT_st rfl rfl rfl rfl (V_assign rfl rfl) ?_
      refine GT_st rfl rfl rfl rfl (V_assign rfl rfl) ?_
      refine GT_nil ?_
      refine GE_ret Try.func18 ⟨_, _, rfl, rfl, rfl⟩ (fun w hw => ⟨?_, hw.nil⟩)
      first | rw [hyes ⟨⟨e1, by omega⟩, by omega⟩] | rw [hno (fun ⟨⟨q1, q2⟩, q3⟩ => (by first | exact e1 q1 | omega))]
    · skip
      refine GT_st_g rfl rfl rfl rfl rfl rfl rfl (V_move rfl rfl) ?_
      refine GT_st_g rfl rfl rfl rfl rfl rfl rfl (V_move rfl rfl) ?_
      refine GT_st_g rfl rfl rfl rfl rfl rfl rfl (V_gtr rfl rfl rfl) ?_
      refine GT_st rfl rfl rfl rfl (V_pick_f rfl rfl rfl) ?_
      refine GT_st rfl rfl rfl rfl (V_move rfl rfl) ?_
      first | refine GT_splitNot (d := 32) rfl (fun h2 => ?_) (fun h2 => ?_) | refine GT_split (d := 32) rfl (fun h2 => ?_) (fun h2 => ?_) | refine GT_splitNotB (d := 32) rfl (fun h2 => ?_) (fun h2 => ?_) | refine GT_splitB (d := 32) rfl (fun h2 => ?_) (fun h2 => ?_)
      · skip
        refine GT_skip rfl rfl rfl rfl rfl (by decide) rfl rfl ?_
        refine GT_skip rfl rfl rfl rfl rfl (by decide) rfl rfl ?_
        refine GT_st rfl rfl rfl rfl (V_pick_t rfl rfl rfl) ?_
        refine GT_st rfl rfl rfl rfl (V_move rfl rfl) ?_
        refine GT_skip rfl rfl rfl rfl rfl (by decide) rfl rfl ?_
        refine GT_skip rfl rfl rfl rfl rfl (by decide) rfl rfl ?_
        refine GT_skip rfl rfl rfl rfl rfl (by decide) rfl rfl ?_
        refine GT_st rfl rfl rfl rfl (V_pick_t rfl rfl rfl) ?_
        refine GT_nil ?_
        refine GE_cond_t rfl ?_
        refine GE_seq ?_
        refine GE_slots (L' := []) trivial ?_
        refine GE_plain (.st 0 (.st 1 .nil)) rfl ?_
        refine GT_st rfl rfl rfl rfl (V_assign rfl rfl) ?_
        refine GT_st rfl rfl rfl rfl (V_assign rfl rfl) ?_
        refine GT_nil ?_
        refine GE_ret Try.func18 ⟨_, _, rfl, rfl, rfl⟩ (fun w hw => ⟨?_, hw.nil⟩)
        first | rw [hyes ⟨⟨e1, by omega⟩, by omega⟩] | rw [hno (fun ⟨⟨q1, q2⟩, q3⟩ => (by first | exact e1 q1 | omega))]
      · skip
        refine GT_st_g rfl rfl rfl rfl rfl rfl rfl (V_move rfl rfl) ?_
        refine GT_st_g rfl rfl rfl rfl rfl rfl rfl (V_lss rfl rfl rfl) ?_
        refine GT_st rfl rfl rfl rfl (V_pick_f rfl rfl rfl) ?_
        refine GT_st rfl rfl rfl rfl (V_move rfl rfl) ?_
        first | refine GT_splitNot (d := 36) rfl (fun h3 => ?_) (fun h3 => ?_) | refine GT_split (d := 36) rfl (fun h3 => ?_) (fun h3 => ?_) | refine GT_splitNotB (d := 36) rfl (fun h3 => ?_) (fun h3 => ?_) | refine GT_splitB (d := 36) rfl (fun h3 => ?_) (fun h3 => ?_)
        · skip
          refine GT_skip rfl rfl rfl rfl rfl (by decide) rfl rfl ?_
          refine GT_skip rfl rfl rfl rfl rfl (by decide) rfl rfl ?_
          refine GT_skip rfl rfl rfl rfl rfl (by decide) rfl rfl ?_
          refine GT_st rfl rfl rfl rfl (V_pick_t rfl rfl rfl) ?_
          refine GT_nil ?_
          refine GE_cond_t rfl ?_
          refine GE_seq ?_
          refine GE_slots (L' := []) trivial ?_
          refine GE_plain (.st 0 (.st 1 .nil)) rfl ?_
          refine GT_st rfl rfl rfl rfl (V_assign rfl rfl) ?_
          refine GT_st rfl rfl rfl rfl (V_assign rfl rfl) ?_
          refine GT_nil ?_
          refine GE_ret Try.func18 ⟨_, _, rfl, rfl, rfl⟩ (fun w hw => ⟨?_, hw.nil⟩)
          first | rw [hyes ⟨⟨e1, by omega⟩, by omega⟩] | rw [hno (fun ⟨⟨q1, q2⟩, q3⟩ => (by first | exact e1 q1 | omega))]
        · skip
          refine GT_st_g rfl rfl rfl rfl rfl rfl rfl (V_move rfl rfl) ?_
          refine GT_st_g rfl rfl rfl rfl rfl rfl rfl (V_move rfl rfl) ?_
          refine GT_st_g rfl rfl rfl rfl rfl rfl rfl (V_gtr rfl rfl rfl) ?_
          refine GT_st rfl rfl rfl rfl (V_pick_f rfl rfl rfl) ?_
          refine GT_nil ?_
          first | refine GE_condNot rfl (fun h4 => ?_) (fun h4 => ?_) | refine GE_cond rfl (fun h4 => ?_) (fun h4 => ?_) | refine GE_condNotB rfl (fun h4 => ?_) (fun h4 => ?_) | refine GE_condB rfl (fun h4 => ?_) (fun h4 => ?_)
          · skip
            refine GE_seq ?_
            refine GE_slots (L' := []) trivial ?_
            refine GE_plain (.st 0 (.st 1 .nil)) rfl ?_
            refine GT_st rfl rfl rfl rfl (V_assign rfl rfl) ?_
            refine GT_st rfl rfl rfl rfl (V_assign rfl rfl) ?_
            refine GT_nil ?_
            refine GE_ret Try.func18 ⟨_, _, rfl, rfl, rfl⟩ (fun w hw => ⟨?_, hw.nil⟩)
            first | rw [hyes ⟨⟨e1, by omega⟩, by omega⟩] | rw [hno (fun ⟨⟨q1, q2⟩, q3⟩ => (by first | exact e1 q1 | omega))]
          · skip
            refine GE_skip ?_
            refine GE_seq ?_
            refine GE_slots (L' := [(0, _), (1, _), (2, _), (3, _), (4, _), (5, _), (6, _)]) ⟨rfl, rfl, rfl, rfl, rfl, rfl, rfl, trivial⟩ ?_
            refine GE_plain (.st 0 (.st 1 (.st 2 (.st 3 (.st 4 (.st 5 (.st 6 (.ld 7 [] (.st 8 (.st 9 .nil)))))))))) rfl ?_
            refine GT_st rfl rfl rfl rfl (V_move rfl rfl) ?_
            refine GT_st rfl rfl rfl rfl (V_move rfl rfl) ?_
            refine GT_st rfl rfl rfl rfl (V_move rfl rfl) ?_
            refine GT_st rfl rfl rfl rfl (V_move rfl rfl) ?_
            refine GT_st rfl rfl rfl rfl (V_move rfl rfl) ?_
            refine GT_st rfl rfl rfl rfl (V_move rfl rfl) ?_
            refine GT_st rfl rfl rfl rfl (V_move rfl rfl) ?_
            refine GT_call0 rfl rfl rfl rfl rfl rfl rfl rfl rn_44 (fun w hw => C_ref09_holds (d := d) hd (by omega) (by omega)) (GR_nil) ?_
            refine GT_st rfl rfl rfl rfl (V_assign rfl rfl) ?_
            refine GT_st rfl rfl rfl rfl (V_assign rfl rfl) ?_
            refine GT_nil ?_
            refine GE_ret Try.func18 ⟨_, _, rfl, rfl, rfl⟩ (fun w hw => ⟨?_, hw.nil⟩)
            first | rw [hyes ⟨⟨e1, by omega⟩, by omega⟩] | rw [hno (fun ⟨⟨q1, q2⟩, q3⟩ => (by first | exact e1 q1 | omega))]
theorem C_ref09_Sampling {d : Dmd} {w : World} : Con Try.prog 19 [I d.n, I d.g, I d.b, I d.r, I d.a] w (fun y : Int × Int => (d.chk = 0 → Samp d y.1 y.2) ∧ (d.chk ≠ 0 → y = (0, 0))) (fun y => .tuple #[I y.1, I y.2, I d.chk]) (fun _ => []) := by
  have hc3 : d.chk ≠ 0 → d.chk = 3 := fun h => by unfold Dmd.chk at h ⊢; split at h <;> simp_all
  refine Ret_of (vs := [_, _, _, _, _]) hm none' Try.func19 rfl Try.ntmps19 rfl ?_
  dsimp only [slotsOf]
  refine GE_seq ?_
  refine GE_plain (.st 0 (.st 1 (.st 2 .nil))) rfl ?_
  refine GT_st rfl rfl rfl rfl (V_assign rfl rfl) ?_
  refine GT_st rfl rfl rfl rfl (V_assign rfl rfl) ?_
  refine GT_st rfl rfl rfl rfl (V_assign rfl rfl) ?_
  refine GT_nil ?_
  refine GE_seq ?_
  refine GE_seq ?_
  refine GE_plain (.st 0 (.st 1 (.st 2 (.st 3 (.st 4 (.ld 5 [] (.st 6 .nil))))))) rfl ?_
  refine GT_st rfl rfl rfl rfl (V_move rfl rfl) ?_
  refine GT_st rfl rfl rfl rfl (V_move rfl rfl) ?_
  refine GT_st rfl rfl rfl rfl (V_move rfl rfl) ?_
  refine GT_st rfl rfl rfl rfl (V_move rfl rfl) ?_
  refine GT_st rfl rfl rfl rfl (V_move rfl rfl) ?_
  refine GT_call0 rfl rfl rfl rfl rfl rfl rfl rfl rn_43 (fun w hw => C_ref09_limits (d := d)) (GR_nil) ?_
  refine GT_st rfl rfl rfl rfl (V_neq rfl rfl rfl) ?_
  refine GT_nil ?_
  first | refine GE_condNot rfl (fun h1 => ?_) (fun h1 => ?_) | refine GE_cond rfl (fun h1 => ?_) (fun h1 => ?_) | refine GE_condNotB rfl (fun h1 => ?_) (fun h1 => ?_) | refine GE_condB rfl (fun h1 => ?_) (fun h1 => ?_)
  · skip
    refine GE_seq ?_
    refine GE_slots (L' := []) trivial ?_
    refine GE_plain (.st 0 (.st 1 (.st 2 .nil))) rfl ?_
    refine GT_st rfl rfl rfl rfl (V_assign rfl rfl) ?_
    refine GT_st rfl rfl rfl rfl (V_assign rfl rfl) ?_
    refine GT_st rfl rfl rfl rfl (V_assign rfl rfl) ?_
    refine GT_nil ?_
    refine GE_ret Try.func19 ⟨_, _, _, rfl, rfl, rfl, rfl⟩ (fun w hw => ?_)
    exact ⟨(0, 0), ⟨fun q => absurd q h1, fun _ => rfl⟩, by rw [hc3 h1], hw.nil⟩
  · have hd := Dmd.chk_zero.1 h1; obtain ⟨hn, hg, hb, hr, ha⟩ := id hd
    refine GE_skip ?_
    refine GE_seq ?_
    refine GE_seq ?_
    refine GE_slots (L' := [(0, _), (1, _), (2, _), (3, _), (4, _)]) ⟨rfl, rfl, rfl, rfl, rfl, trivial⟩ ?_
    refine GE_plain (.st 0 .nil) rfl ?_
    refine GT_st rfl rfl rfl rfl (V_assign rfl rfl) ?_
    refine GT_nil ?_
    refine GE_block ?_
    refine GE_to (GE_loop (ι := Nat) (fun k => d.n.toNat - k) (fun k => [(0, I d.n), (1, I d.g), (2, I d.b), (3, I d.r), (4, I d.a), (13, I k)]) (fun k => []) (fun k => (k : Int) ≤ d.n ∧ ∀ s' c', 0 ≤ s' → s' < (k : Int) → 0 ≤ c' → c' ≤ d.n → d.hold s' c' = false) ?_ 0 ?_) ⟨rfl, rfl, rfl, rfl, rfl, rfl, trivial⟩ HS.nil
    · intro k ⟨hk, hno⟩ ih
      refine GE_seq ?_
      refine GE_seq ?_
      refine GE_plain (.st 0 (.st 1 (.st 2 .nil))) rfl ?_
      refine GT_st rfl rfl rfl rfl (V_move rfl rfl) ?_
      refine GT_st rfl rfl rfl rfl (V_move rfl rfl) ?_
      refine GT_st rfl rfl rfl rfl (V_lss rfl rfl rfl) ?_
      refine GT_nil ?_
      first | refine GE_condNot rfl (fun h2 => ?_) (fun h2 => ?_) | refine GE_cond rfl (fun h2 => ?_) (fun h2 => ?_) | refine GE_condNotB rfl (fun h2 => ?_) (fun h2 => ?_) | refine GE_condB rfl (fun h2 => ?_) (fun h2 => ?_)
      · skip
        refine GE_skip ?_
        refine GE_seq ?_
        refine GE_block ?_
        refine GE_seq ?_
        refine GE_plain (.st 0 .nil) rfl ?_
        refine GT_st rfl rfl rfl rfl (V_assign rfl rfl) ?_
        refine GT_nil ?_
        refine GE_block ?_
        refine GE_to (GE_loop (ι := Nat) (fun j => (d.n + 1).toNat - j) (fun j => [(0, I d.n), (1, I d.g), (2, I d.b), (3, I d.r), (4, I d.a), (13, I k), (14, I j)]) (fun j => []) (fun j => (j : Int) ≤ d.n + 1 ∧ ∀ c', 0 ≤ c' → c' < (j : Int) → d.hold k c' = false) ?_ 0 ?_) ⟨rfl, rfl, rfl, rfl, rfl, rfl, rfl, trivial⟩ HS.nil
        · intro j ⟨hj, hnc⟩ ih2
          refine GE_seq ?_
          refine GE_seq ?_
          refine GE_plain (.st 0 (.st 1 (.st 2 .nil))) rfl ?_
          refine GT_st rfl rfl rfl rfl (V_move rfl rfl) ?_
          refine GT_st rfl rfl rfl rfl (V_move rfl rfl) ?_
          refine GT_st rfl rfl rfl rfl (V_leq rfl rfl rfl) ?_
          refine GT_nil ?_
          first | refine GE_condNot rfl (fun h3 => ?_) (fun h3 => ?_) | refine GE_cond rfl (fun h3 => ?_) (fun h3 => ?_) | refine GE_condNotB rfl (fun h3 => ?_) (fun h3 => ?_) | refine GE_condB rfl (fun h3 => ?_) (fun h3 => ?_)
          · skip
            refine GE_skip ?_
            refine GE_seq ?_
            refine GE_block ?_
            refine GE_seq ?_
            refine GE_plain (.st 0 (.st 1 (.st 2 (.st 3 (.st 4 (.st 5 (.st 6 (.ld 7 [] .nil)))))))) rfl ?_
            refine GT_st rfl rfl rfl rfl (V_move rfl rfl) ?_
            refine GT_st rfl rfl rfl rfl (V_move rfl rfl) ?_
            refine GT_st rfl rfl rfl rfl (V_move rfl rfl) ?_
            refine GT_st rfl rfl rfl rfl (V_move rfl rfl) ?_
            refine GT_st rfl rfl rfl rfl (V_move rfl rfl) ?_
            refine GT_st rfl rfl rfl rfl (V_move rfl rfl) ?_
            refine GT_st rfl rfl rfl rfl (V_move rfl rfl) ?_
            refine GT_call0 rfl rfl rfl rfl rfl rfl rfl rfl rn_44 (fun w hw => C_ref09_holds (d := d) hd (by omega) (by omega)) (GR_nil) ?_
            refine GT_nil ?_
            first | refine GE_condNot rfl (fun h4 => ?_) (fun h4 => ?_) | refine GE_cond rfl (fun h4 => ?_) (fun h4 => ?_) | refine GE_condNotB rfl (fun h4 => ?_) (fun h4 => ?_) | refine GE_condB rfl (fun h4 => ?_) (fun h4 => ?_)
            · skip
              refine GE_seq ?_
              refine GE_slots (L' := [(13, _), (14, _)]) ⟨rfl, rfl, trivial⟩ ?_
              refine GE_plain (.st 0 (.st 1 (.st 2 (.st 3 (.st 4 .nil))))) rfl ?_
              refine GT_st rfl rfl rfl rfl (V_move rfl rfl) ?_
              refine GT_st rfl rfl rfl rfl (V_move rfl rfl) ?_
              refine GT_st rfl rfl rfl rfl (V_assign rfl rfl) ?_
              refine GT_st rfl rfl rfl rfl (V_assign rfl rfl) ?_
              refine GT_st rfl rfl rfl rfl (V_assign rfl rfl) ?_
              refine GT_nil ?_
              refine GE_ret Try.func19 ⟨_, _, _, rfl, rfl, rfl, rfl⟩ (fun w hw => ?_)
              exact ⟨((k : Int), (j : Int)), ⟨fun _ => ⟨by dsimp only; omega, by dsimp only; omega, h4, hnc, hno⟩, fun q => absurd h1 q⟩, by rw [h1], hw.nil⟩
            · skip
              refine GE_skip ?_
              refine GE_inBlock ?_
              refine GE_slots (L' := [(0, _), (1, _), (2, _), (3, _), (4, _), (13, _), (14, _)]) ⟨rfl, rfl, rfl, rfl, rfl, rfl, rfl, trivial⟩ ?_
              refine GE_plain (.st 0 (.st 1 (.ld 2 [] .nil))) rfl ?_
              refine GT_st rfl rfl rfl rfl (V_move rfl rfl) ?_
              refine GT_st rfl rfl rfl rfl (V_add rfl rfl rfl (wrap_i64 (by omega))) ?_
              refine GT_ldv rfl rfl rfl rfl rfl (V_assign rfl rfl) (GR_nil) ?_
              refine GT_nil ?_
              exact GE_to (ih2 (j + 1) ⟨by omega, fun c' a1 a2 => by rcases Int.lt_or_le c' j with q | q; exact hnc c' a1 q; obtain rfl : c' = (j : Int) := (by omega); exact h4⟩ (by omega)) ⟨rfl, rfl, rfl, rfl, rfl, rfl, rfl, trivial⟩ HS.nil
          · skip
            refine GE_exit rfl ?_
            refine GE_inBlock ?_
            refine GE_slots (L' := [(0, _), (1, _), (2, _), (3, _), (4, _), (13, _)]) ⟨rfl, rfl, rfl, rfl, rfl, rfl, trivial⟩ ?_
            refine GE_plain (.st 0 (.st 1 (.ld 2 [] .nil))) rfl ?_
            refine GT_st rfl rfl rfl rfl (V_move rfl rfl) ?_
            refine GT_st rfl rfl rfl rfl (V_add rfl rfl rfl (wrap_i64 (by omega))) ?_
            refine GT_ldv rfl rfl rfl rfl rfl (V_assign rfl rfl) (GR_nil) ?_
            refine GT_nil ?_
            exact GE_to (ih (k + 1) ⟨by omega, fun s' c' a1 a2 a3 a4 => by rcases Int.lt_or_le s' k with q | q; exact hno s' c' a1 q a3 a4; obtain rfl : s' = (k : Int) := (by omega); exact hnc c' a3 (by omega)⟩ (by omega)) ⟨rfl, rfl, rfl, rfl, rfl, rfl, trivial⟩ HS.nil
        · exact ⟨by omega, fun c' h1 h2 => by omega⟩
      · obtain rfl : k = d.n.toNat := (by omega)
        refine GE_exit rfl ?_
        refine GE_seq ?_
        refine GE_slots (L' := [(0, _), (1, _), (2, _), (3, _), (4, _)]) ⟨rfl, rfl, rfl, rfl, rfl, trivial⟩ ?_
        refine GE_plain (.st 0 .nil) rfl ?_
        refine GT_st rfl rfl rfl rfl (V_assign rfl rfl) ?_
        refine GT_nil ?_
        refine GE_seq ?_
        refine GE_block ?_
        refine GE_to (GE_loop (ι := Nat) (fun j => (d.n + 1).toNat - j) (fun j => [(0, I d.n), (1, I d.g), (2, I d.b), (3, I d.r), (4, I d.a), (15, I j)]) (fun j => []) (fun j => (j : Int) ≤ d.n ∧ ∀ c', 0 ≤ c' → c' < (j : Int) → d.hold d.n c' = false) ?_ 0 ?_) ⟨rfl, rfl, rfl, rfl, rfl, rfl, trivial⟩ HS.nil
        · intro j ⟨hj, hnc⟩ ih2
          refine GE_seq ?_
          refine GE_seq ?_
          refine GE_plain (.st 0 (.st 1 (.st 2 (.st 3 (.st 4 (.st 5 (.st 6 (.st 7 (.st 8 (.st 9 (.st 10 (.ld 11 [] (.st 12 (.st 13 .nil)))))))))))))) rfl ?_
          refine GT_st rfl rfl rfl rfl (V_move rfl rfl) ?_
          refine GT_st rfl rfl rfl rfl (V_move rfl rfl) ?_
          refine GT_st rfl rfl rfl rfl (V_lss rfl rfl rfl) ?_
          refine GT_st rfl rfl rfl rfl (V_move rfl rfl) ?_
          first | refine GT_splitNot (d := 46) rfl (fun h5 => ?_) (fun h5 => ?_) | refine GT_split (d := 46) rfl (fun h5 => ?_) (fun h5 => ?_) | refine GT_splitNotB (d := 46) rfl (fun h5 => ?_) (fun h5 => ?_) | refine GT_splitB (d := 46) rfl (fun h5 => ?_) (fun h5 => ?_)
          · skip
            refine GT_st_g rfl rfl rfl rfl rfl rfl rfl (V_move rfl rfl) ?_
            refine GT_st_g rfl rfl rfl rfl rfl rfl rfl (V_move rfl rfl) ?_
            refine GT_st_g rfl rfl rfl rfl rfl rfl rfl (V_move rfl rfl) ?_
            refine GT_st_g rfl rfl rfl rfl rfl rfl rfl (V_move rfl rfl) ?_
            refine GT_st_g rfl rfl rfl rfl rfl rfl rfl (V_move rfl rfl) ?_
            refine GT_st_g rfl rfl rfl rfl rfl rfl rfl (V_move rfl rfl) ?_
            refine GT_st_g rfl rfl rfl rfl rfl rfl rfl (V_move rfl rfl) ?_
            refine GT_call0_g rfl rfl rfl rfl rfl rfl rfl rfl rfl rfl rfl rn_44 (fun w hw => C_ref09_holds (d := d) hd (by omega) (by omega)) (GR_nil) ?_
            first | refine GT_st_g rfl rfl rfl rfl rfl rfl rfl (V_not rfl rfl) ?_ | refine GT_st_g rfl rfl rfl rfl rfl rfl rfl (V_notB rfl rfl) ?_
            refine GT_st rfl rfl rfl rfl (V_pick_t rfl rfl rfl) ?_
            refine GT_nil ?_
            first | refine GE_condNot rfl (fun h6 => ?_) (fun h6 => ?_) | refine GE_cond rfl (fun h6 => ?_) (fun h6 => ?_) | refine GE_condNotB rfl (fun h6 => ?_) (fun h6 => ?_) | refine GE_condB rfl (fun h6 => ?_) (fun h6 => ?_)
            · skip
              refine GE_skip ?_
              refine GE_block ?_
              refine GE_slots (L' := [(0, _), (1, _), (2, _), (3, _), (4, _), (15, _), (47, _), (48, _), (49, _), (50, _), (51, _), (52, _), (53, _), (54, _), (55, _)]) ⟨rfl, rfl, rfl, rfl, rfl, rfl, rfl, rfl, rfl, rfl, rfl, rfl, rfl, rfl, rfl, trivial⟩ ?_
              refine GE_plain (.st 0 (.st 1 (.ld 2 [] .nil))) rfl ?_
              refine GT_st rfl rfl rfl rfl (V_move rfl rfl) ?_
              refine GT_st rfl rfl rfl rfl (V_add rfl rfl rfl (wrap_i64 (by omega))) ?_
              refine GT_ldv rfl rfl rfl rfl rfl (V_assign rfl rfl) (GR_nil) ?_
              refine GT_nil ?_
              refine GE_inBlock ?_
              exact GE_to (ih2 (j + 1) ⟨by omega, fun c' a1 a2 => by rcases Int.lt_or_le c' j with q | q; exact hnc c' a1 q; obtain rfl : c' = (j : Int) := (by omega); simpa using h6⟩ (by omega)) ⟨rfl, rfl, rfl, rfl, rfl, rfl, trivial⟩ HS.nil
            · skip
              refine GE_exit rfl ?_
              refine GE_seq ?_
              refine GE_slots (L' := [(0, _), (15, _)]) ⟨rfl, rfl, trivial⟩ ?_
              refine GE_plain (.st 0 (.st 1 (.st 2 (.st 3 (.st 4 .nil))))) rfl ?_
              refine GT_st rfl rfl rfl rfl (V_move rfl rfl) ?_
              refine GT_st rfl rfl rfl rfl (V_move rfl rfl) ?_
              refine GT_st rfl rfl rfl rfl (V_assign rfl rfl) ?_
              refine GT_st rfl rfl rfl rfl (V_assign rfl rfl) ?_
              refine GT_st rfl rfl rfl rfl (V_assign rfl rfl) ?_
              refine GT_nil ?_
              refine GE_ret Try.func19 ⟨_, _, _, rfl, rfl, rfl, rfl⟩ (fun w hw => ?_)
              exact ⟨(d.n, (j : Int)), ⟨fun _ => ⟨by dsimp only; omega, by dsimp only; omega, by simpa using h6, hnc, fun s' c' a1 a2 a3 a4 => hno s' c' a1 (by dsimp only at a2; omega) a3 a4⟩, fun q => absurd h1 q⟩, by rw [h1], hw.nil⟩
          · exact absurd (hold_whole hd) (by rw [hnc d.g hg (by omega)]; decide)
        · exact ⟨by omega, fun c' h1 h2 => by omega⟩
    · exact ⟨by omega, fun s' c' h1 h2 => by omega⟩
end Go.Proofs.Ytfaggcmcfhljpaa
