/- Peaks and energies; the document's measures; walked. -/
import Derived.Test.YtdcjgjopmicidaaDoorTa5
namespace Go.Proofs.YtdcjgjopmicidaaDoor
open Go.Sx Go.Proofs Go.RowKit

def pkN (s : List Sam) : Nat → Sam
  | 0 => ⟨0, 0⟩
  | n + 1 => ⟨max (pkN s n).l (amt (s.getD n default).l), max (pkN s n).r (amt (s.getD n default).r)⟩
def pkV (s : List Sam) : Sam := if sErr s = 0 then pkN s s.length else ⟨0, 0⟩
def egN (s : List Sam) : Nat → Sam
  | 0 => ⟨0, 0⟩
  | n + 1 => ⟨(egN s n).l + (s.getD n default).l * (s.getD n default).l, (egN s n).r + (s.getD n default).r * (s.getD n default).r⟩
def egV (s : List Sam) : Sam := if sErr s = 0 then egN s s.length else ⟨0, 0⟩
theorem sq_bd {x : Int} (h : -32767 ≤ x ∧ x ≤ 32767) : 0 ≤ x * x ∧ x * x ≤ 1073676289 := by
  have h1 : amt (x * x) = amt x * amt x := by
    unfold amt
    rcases Int.le_total 0 x with q | q
    · have := Int.mul_nonneg q q; rw [Int.max_eq_left (by omega), Int.max_eq_left (by omega)]
    · have e : x * x = -x * -x := by rw [Int.neg_mul_neg]
      have := Int.mul_nonneg (a := -x) (b := -x) (by omega) (by omega)
      rw [Int.max_eq_right (a := x) (by omega), e, Int.max_eq_left (by omega)]
  have h2 := mul_bd (amt_nonneg x) (A := 32767) (by unfold amt; omega) (amt_nonneg x) (B := 32767) (by unfold amt; omega)
  rw [← h1] at h2
  unfold amt at h2
  have h0 : 0 ≤ x * x := by
    rcases Int.le_total 0 x with q | q
    · exact Int.mul_nonneg q q
    · have := Int.mul_nonneg (a := -x) (b := -x) (by omega) (by omega); rwa [Int.neg_mul_neg] at this
  omega
theorem egN_bd {s : List Sam} (h : s.all Sam.ok = true) : ∀ n, n ≤ s.length → (0 ≤ (egN s n).l ∧ (egN s n).l ≤ n * 1073676289) ∧ (0 ≤ (egN s n).r ∧ (egN s n).r ≤ n * 1073676289) := by
  intro n
  induction n with
  | zero => intro _; simp [egN]
  | succ n ih =>
    intro hn
    have h1 := ih (by omega)
    have h2 := Sam.ok_iff.1 (all_getD.1 h n (by omega))
    have h3 := sq_bd h2.1
    have h4 := sq_bd h2.2
    simp only [egN]
    omega
section
variable {w : World} {A : Option Addr} {c : Nat} {s : List Sam}
theorem wrap_neg {n : Int} (h : I64 n) : (n = -9223372036854775808 ∧ IntKind.i64.wrap (0 - n) = -9223372036854775808) ∨ (n ≠ -9223372036854775808 ∧ IntKind.i64.wrap (0 - n) = -n) := by
  unfold I64 at h
  by_cases e : n = -9223372036854775808
  · subst e; exact .inl ⟨rfl, by decide⟩
  · exact .inr ⟨e, by rw [wrap_i64 (by omega)]; omega⟩
theorem C_rAmountW {n : Int} : Con0 Tryd.prog 49 [I n] w (I (max n (IntKind.i64.wrap (0 - n)))) := by
  refine Ret_of (vs := [_]) hm none' Tryd.func49 rfl Tryd.ntmps49 rfl ?_
  dsimp only [slotsOf]
  refine GE_seq ?_
  refine GE_plain (.st 0 .nil) rfl ?_
  refine GT_st rfl rfl rfl rfl (V_assign rfl rfl) ?_
  refine GT_nil ?_
  refine GE_seq ?_
  refine GE_plain (.st 0 (.st 1 (.st 2 (.st 3 (.st 4 .nil))))) rfl ?_
  refine GT_st rfl rfl rfl rfl (V_move rfl rfl) ?_
  refine GT_st rfl rfl rfl rfl (V_move rfl rfl) ?_
  refine GT_st rfl rfl rfl rfl (V_neg rfl rfl (rfl)) ?_
  refine GT_st rfl rfl rfl rfl (V_max rfl rfl rfl) ?_
  refine GT_st rfl rfl rfl rfl (V_assign rfl rfl) ?_
  refine GT_nil ?_
  refine GE_ret Tryd.func49 rfl (fun w hw => ⟨?_, hw.nil⟩)
  rfl
theorem C_rAmount {n : Int} (h : -9000000000000000000 ≤ n ∧ n ≤ 9000000000000000000) : Con0 Tryd.prog 49 [I n] w (I (amt n)) := by
  refine Ret_of (vs := [_]) hm none' Tryd.func49 rfl Tryd.ntmps49 rfl ?_
  dsimp only [slotsOf]
  refine GE_seq ?_
  refine GE_plain (.st 0 .nil) rfl ?_
  refine GT_st rfl rfl rfl rfl (V_assign rfl rfl) ?_
  refine GT_nil ?_
  refine GE_seq ?_
  refine GE_plain (.st 0 (.st 1 (.st 2 (.st 3 (.st 4 .nil))))) rfl ?_
  refine GT_st rfl rfl rfl rfl (V_move rfl rfl) ?_
  refine GT_st rfl rfl rfl rfl (V_move rfl rfl) ?_
  refine GT_st rfl rfl rfl rfl (V_neg rfl rfl (wrap_i64 (by omega))) ?_
  refine GT_st rfl rfl rfl rfl (V_max rfl rfl rfl) ?_
  refine GT_st rfl rfl rfl rfl (V_assign rfl rfl) ?_
  refine GT_nil ?_
  refine GE_ret Tryd.func49 rfl (fun w hw => ⟨?_, hw.nil⟩)
  refine congrArg I ?_; unfold amt; omega
theorem C_rValid {x : Sam} (hx : x.wf) : Con0 Tryd.prog 41 [.agg #[I x.l, I x.r]] w (.bool x.ok) := by
  have hd : ∀ q : Bool, (((-32767 ≤ x.l ∧ x.l ≤ 32767) ∧ (-32767 ≤ x.r ∧ x.r ≤ 32767)) ↔ q = true) → Value.bool q = Value.bool x.ok := fun q hq => congrArg Value.bool (by rw [Bool.eq_iff_iff, Sam.ok_iff, hq])
  have n1 := wrap_neg hx.1
  have n2 := wrap_neg hx.2
  refine Ret_of (vs := [_]) hm none' Tryd.func41 rfl Tryd.ntmps41 rfl ?_
  dsimp only [slotsOf]
  refine GE_seq ?_
  refine GE_plain (.ld 0 [] (.st 1 .nil)) rfl ?_
  refine GT_box (z := [_, _]) rfl rfl rfl rfl rfl rfl rfl (fun _ => GR_nil) (fun b1 => ?_)
  refine GT_st rfl rfl rfl rfl (V_assign rfl rfl) ?_
  refine GT_nil ?_
  refine GE_seq ?_
  refine GE_plain (.st 0 (.st 1 (.ld 2 [] (.st 3 (.st 4 (.st 5 (.st 6 (.ld 7 [] (.st 8 (.st 9 (.st 10 (.st 11 (.st 12 (.st 13 (.st 14 (.st 15 (.st 16 (.st 17 (.st 18 (.st 19 (.st 20 .nil))))))))))))))))))))) rfl ?_
  first | refine GT_st rfl rfl rfl rfl (V_field rfl rfl fo_45_0) ?_ | refine GT_st rfl rfl rfl rfl (V_fieldA rfl rfl fo_45_0) ?_
  refine GT_st rfl rfl rfl rfl (V_load rfl rfl ag_2 (CellAt.item rfl)) ?_
  refine GT_call0 rfl rfl rfl rfl rfl rfl rfl rfl rn_49 (fun w hw => C_rAmountW) (GR_nil) ?_
  refine GT_st rfl rfl rfl rfl (V_leq rfl rfl rfl) ?_
  refine GT_st rfl rfl rfl rfl (V_move rfl rfl) ?_
  first | refine GT_splitNot (d := 7) rfl (fun h1 => ?_) (fun h1 => ?_) | refine GT_split (d := 7) rfl (fun h1 => ?_) (fun h1 => ?_) | refine GT_splitNotB (d := 7) rfl (fun h1 => ?_) (fun h1 => ?_) | refine GT_splitB (d := 7) rfl (fun h1 => ?_) (fun h1 => ?_)
  · skip
    first | refine GT_st_g rfl rfl rfl rfl rfl rfl rfl (V_field rfl rfl fo_45_1) ?_ | refine GT_st_g rfl rfl rfl rfl rfl rfl rfl (V_fieldA rfl rfl fo_45_1) ?_
    refine GT_st_g rfl rfl rfl rfl rfl rfl rfl (V_load rfl rfl ag_2 (CellAt.item rfl)) ?_
    refine GT_call0_g rfl rfl rfl rfl rfl rfl rfl rfl rfl rfl rfl rn_49 (fun w hw => C_rAmountW) (GR_nil) ?_
    refine GT_st_g rfl rfl rfl rfl rfl rfl rfl (V_leq rfl rfl rfl) ?_
    refine GT_st rfl rfl rfl rfl (V_pick_t rfl rfl rfl) ?_
    refine GT_st rfl rfl rfl rfl (V_move rfl rfl) ?_
    first | refine GT_splitNot (d := 13) rfl (fun h2 => ?_) (fun h2 => ?_) | refine GT_split (d := 13) rfl (fun h2 => ?_) (fun h2 => ?_) | refine GT_splitNotB (d := 13) rfl (fun h2 => ?_) (fun h2 => ?_) | refine GT_splitB (d := 13) rfl (fun h2 => ?_) (fun h2 => ?_)
    · skip
      first | refine GT_st_g rfl rfl rfl rfl rfl rfl rfl (V_field rfl rfl fo_45_0) ?_ | refine GT_st_g rfl rfl rfl rfl rfl rfl rfl (V_fieldA rfl rfl fo_45_0) ?_
      refine GT_st_g rfl rfl rfl rfl rfl rfl rfl (V_load rfl rfl ag_2 (CellAt.item rfl)) ?_
      refine GT_st_g rfl rfl rfl rfl rfl rfl rfl (V_gtr rfl rfl rfl) ?_
      refine GT_st rfl rfl rfl rfl (V_pick_t rfl rfl rfl) ?_
      refine GT_st rfl rfl rfl rfl (V_move rfl rfl) ?_
      first | refine GT_splitNot (d := 18) rfl (fun h3 => ?_) (fun h3 => ?_) | refine GT_split (d := 18) rfl (fun h3 => ?_) (fun h3 => ?_) | refine GT_splitNotB (d := 18) rfl (fun h3 => ?_) (fun h3 => ?_) | refine GT_splitB (d := 18) rfl (fun h3 => ?_) (fun h3 => ?_)
      · skip
        first | refine GT_st_g rfl rfl rfl rfl rfl rfl rfl (V_field rfl rfl fo_45_1) ?_ | refine GT_st_g rfl rfl rfl rfl rfl rfl rfl (V_fieldA rfl rfl fo_45_1) ?_
        refine GT_st_g rfl rfl rfl rfl rfl rfl rfl (V_load rfl rfl ag_2 (CellAt.item rfl)) ?_
        refine GT_st_g rfl rfl rfl rfl rfl rfl rfl (V_gtr rfl rfl rfl) ?_
        refine GT_st rfl rfl rfl rfl (V_pick_t rfl rfl rfl) ?_
        refine GT_st rfl rfl rfl rfl (V_assign rfl rfl) ?_
        refine GT_nil ?_
        refine GE_ret Tryd.func41 rfl (fun w hw => ⟨?_, hw.nil⟩)
        refine hd _ ?_; generalize IntKind.i64.wrap (0 - x.l) = z1 at *; generalize IntKind.i64.wrap (0 - x.r) = z2 at *; simp only [decide_eq_true_iff, Bool.false_eq_true, iff_false]; omega
      · skip
        refine GT_skip rfl rfl rfl rfl rfl (by decide) rfl rfl ?_
        refine GT_skip rfl rfl rfl rfl rfl (by decide) rfl rfl ?_
        refine GT_skip rfl rfl rfl rfl rfl (by decide) rfl rfl ?_
        refine GT_st rfl rfl rfl rfl (V_pick_f rfl rfl rfl) ?_
        refine GT_st rfl rfl rfl rfl (V_assign rfl rfl) ?_
        refine GT_nil ?_
        refine GE_ret Tryd.func41 rfl (fun w hw => ⟨?_, hw.nil⟩)
        refine hd _ ?_; generalize IntKind.i64.wrap (0 - x.l) = z1 at *; generalize IntKind.i64.wrap (0 - x.r) = z2 at *; simp only [decide_eq_true_iff, Bool.false_eq_true, iff_false]; omega
    · skip
      refine GT_skip rfl rfl rfl rfl rfl (by decide) rfl rfl ?_
      refine GT_skip rfl rfl rfl rfl rfl (by decide) rfl rfl ?_
      refine GT_skip rfl rfl rfl rfl rfl (by decide) rfl rfl ?_
      refine GT_st rfl rfl rfl rfl (V_pick_f rfl rfl rfl) ?_
      refine GT_st rfl rfl rfl rfl (V_move rfl rfl) ?_
      refine GT_skip rfl rfl rfl rfl rfl (by decide) rfl rfl ?_
      refine GT_skip rfl rfl rfl rfl rfl (by decide) rfl rfl ?_
      refine GT_skip rfl rfl rfl rfl rfl (by decide) rfl rfl ?_
      refine GT_st rfl rfl rfl rfl (V_pick_f rfl rfl rfl) ?_
      refine GT_st rfl rfl rfl rfl (V_assign rfl rfl) ?_
      refine GT_nil ?_
      refine GE_ret Tryd.func41 rfl (fun w hw => ⟨?_, hw.nil⟩)
      refine hd _ ?_; generalize IntKind.i64.wrap (0 - x.l) = z1 at *; generalize IntKind.i64.wrap (0 - x.r) = z2 at *; simp only [decide_eq_true_iff, Bool.false_eq_true, iff_false]; omega
  · skip
    refine GT_skip rfl rfl rfl rfl rfl (by decide) rfl rfl ?_
    refine GT_skip rfl rfl rfl rfl rfl (by decide) rfl rfl ?_
    refine GT_skip_ld rfl rfl rfl rfl rfl (by decide) rfl rfl rfl (GR_nil) ?_
    refine GT_skip rfl rfl rfl rfl rfl (by decide) rfl rfl ?_
    refine GT_st rfl rfl rfl rfl (V_pick_f rfl rfl rfl) ?_
    refine GT_st rfl rfl rfl rfl (V_move rfl rfl) ?_
    refine GT_skip rfl rfl rfl rfl rfl (by decide) rfl rfl ?_
    refine GT_skip rfl rfl rfl rfl rfl (by decide) rfl rfl ?_
    refine GT_skip rfl rfl rfl rfl rfl (by decide) rfl rfl ?_
    refine GT_st rfl rfl rfl rfl (V_pick_f rfl rfl rfl) ?_
    refine GT_st rfl rfl rfl rfl (V_move rfl rfl) ?_
    refine GT_skip rfl rfl rfl rfl rfl (by decide) rfl rfl ?_
    refine GT_skip rfl rfl rfl rfl rfl (by decide) rfl rfl ?_
    refine GT_skip rfl rfl rfl rfl rfl (by decide) rfl rfl ?_
    refine GT_st rfl rfl rfl rfl (V_pick_f rfl rfl rfl) ?_
    refine GT_st rfl rfl rfl rfl (V_assign rfl rfl) ?_
    refine GT_nil ?_
    refine GE_ret Tryd.func41 rfl (fun w hw => ⟨?_, hw.nil⟩)
    refine hd _ ?_; generalize IntKind.i64.wrap (0 - x.l) = z1 at *; generalize IntKind.i64.wrap (0 - x.r) = z2 at *; simp only [decide_eq_true_iff, Bool.false_eq_true, iff_false]; omega
theorem C_rCheckSamples (h : RdL w 2 eSam A s) (hs : ∀ x ∈ s, x.wf) : Con0 Tryd.prog 34 [.slice A s.length c] w (I (sErr s)) := by
  refine Ret_of (vs := [_]) hm none' Tryd.func34 rfl Tryd.ntmps34 rfl ?_
  dsimp only [slotsOf]
  refine GE_seq ?_
  refine GE_plain (.st 0 .nil) rfl ?_
  refine GT_st rfl rfl rfl rfl (V_assign rfl rfl) ?_
  refine GT_nil ?_
  refine GE_seq ?_
  refine GE_seq ?_
  refine GE_plain (.st 0 (.st 1 (.st 2 .nil))) rfl ?_
  refine GT_st rfl rfl rfl rfl (V_move rfl rfl) ?_
  refine GT_st rfl rfl rfl rfl (V_len rfl Tryd.underlying22 rfl) ?_
  refine GT_st rfl rfl rfl rfl (V_gtr rfl rfl rfl) ?_
  refine GT_nil ?_
  first | refine GE_condNot rfl (fun h1 => ?_) (fun h1 => ?_) | refine GE_cond rfl (fun h1 => ?_) (fun h1 => ?_) | refine GE_condNotB rfl (fun h1 => ?_) (fun h1 => ?_) | refine GE_condB rfl (fun h1 => ?_) (fun h1 => ?_)
  · skip
    refine GE_seq ?_
    refine GE_slots (L' := []) trivial ?_
    refine GE_plain (.st 0 .nil) rfl ?_
    refine GT_st rfl rfl rfl rfl (V_assign rfl rfl) ?_
    refine GT_nil ?_
    refine GE_ret Tryd.func34 rfl (fun w hw => ⟨?_, hw.nil⟩)
    rw [sErr, if_pos (by omega)]
  · skip
    refine GE_skip ?_
    refine GE_seq ?_
    refine GE_seq ?_
    refine GE_slots (L' := [(0, _)]) ⟨rfl, trivial⟩ ?_
    refine GE_plain (.st 0 .nil) rfl ?_
    refine GT_st rfl rfl rfl rfl (V_assign rfl rfl) ?_
    refine GT_nil ?_
    refine GE_block ?_
    refine GE_to (GE_loop (ι := Nat) (fun k => s.length - k) (fun k => [(0, .slice A s.length c), (3, I k)]) (fun k => []) (fun k => k ≤ s.length ∧ ∀ i, i < k → Sam.ok (s.getD i default) = true) ?_ 0 ?_) ⟨rfl, rfl, trivial⟩ HS.nil
    · rintro k ⟨hk, hall⟩ ih
      refine GE_seq ?_
      refine GE_seq ?_
      refine GE_plain (.st 0 (.st 1 (.st 2 (.st 3 .nil)))) rfl ?_
      refine GT_st rfl rfl rfl rfl (V_move rfl rfl) ?_
      refine GT_st rfl rfl rfl rfl (V_move rfl rfl) ?_
      refine GT_st rfl rfl rfl rfl (V_len rfl Tryd.underlying22 rfl) ?_
      refine GT_st rfl rfl rfl rfl (V_lss rfl rfl rfl) ?_
      refine GT_nil ?_
      first | refine GE_condNot rfl (fun h2 => ?_) (fun h2 => ?_) | refine GE_cond rfl (fun h2 => ?_) (fun h2 => ?_) | refine GE_condNotB rfl (fun h2 => ?_) (fun h2 => ?_) | refine GE_condB rfl (fun h2 => ?_) (fun h2 => ?_)
      · have hkl : k < s.length := (by omega)
        refine GE_skip ?_
        refine GE_seq ?_
        refine GE_block ?_
        refine GE_seq ?_
        refine GE_slots (L' := [(0, _), (3, _)]) ⟨rfl, rfl, trivial⟩ ?_
        refine GE_plain (.st 0 (.st 1 (.st 2 (.st 3 (.ld 4 [] (.st 5 .nil)))))) rfl ?_
        refine GT_st rfl rfl rfl rfl (V_move rfl rfl) ?_
        refine GT_st rfl rfl rfl rfl (V_move rfl rfl) ?_
        refine GT_st rfl rfl rfl rfl (V_index rfl rfl rfl Tryd.underlying22 sz_45 (k := k) rfl hkl (h.isSome hkl)) ?_
        refine GT_st rfl rfl rfl rfl (V_loadN (vs := [_, _]) rfl rfl ag_45 sz_45 rfl (h.ats noM hkl)) ?_
        refine GT_call0 rfl rfl rfl rfl rfl rfl rfl rfl rn_41 (fun w hw => C_rValid (hs _ (getD_mem hkl))) (GR_nil) ?_
        first | refine GT_st rfl rfl rfl rfl (V_not rfl rfl) ?_ | refine GT_st rfl rfl rfl rfl (V_notB rfl rfl) ?_
        refine GT_nil ?_
        first | refine GE_condNot rfl (fun h3 => ?_) (fun h3 => ?_) | refine GE_cond rfl (fun h3 => ?_) (fun h3 => ?_) | refine GE_condNotB rfl (fun h3 => ?_) (fun h3 => ?_) | refine GE_condB rfl (fun h3 => ?_) (fun h3 => ?_)
        · skip
          refine GE_seq ?_
          refine GE_slots (L' := []) trivial ?_
          refine GE_plain (.st 0 .nil) rfl ?_
          refine GT_st rfl rfl rfl rfl (V_assign rfl rfl) ?_
          refine GT_nil ?_
          refine GE_ret Tryd.func34 rfl (fun w hw => ⟨?_, hw.nil⟩)
          rw [sErr, if_neg (by omega), if_neg (by rw [all_split hkl h3]; decide)]
        · skip
          refine GE_skip ?_
          refine GE_inBlock ?_
          refine GE_slots (L' := [(0, _), (3, _)]) ⟨rfl, rfl, trivial⟩ ?_
          refine GE_plain (.st 0 (.st 1 (.ld 2 [] .nil))) rfl ?_
          refine GT_st rfl rfl rfl rfl (V_move rfl rfl) ?_
          refine GT_st rfl rfl rfl rfl (V_add rfl rfl rfl (wrap_i64 (by omega))) ?_
          refine GT_ldv rfl rfl rfl rfl rfl (V_assign rfl rfl) (GR_nil) ?_
          refine GT_nil ?_
          exact GE_to (ih (k + 1) ⟨by omega, fun i hi => by rcases Nat.lt_or_ge i k with r | r; exact hall i r; rw [show i = k by omega]; exact h3⟩ (by omega)) ⟨rfl, rfl, trivial⟩ HS.nil
      · skip
        refine GE_exit rfl ?_
        refine GE_seq ?_
        refine GE_slots (L' := []) trivial ?_
        refine GE_plain (.st 0 .nil) rfl ?_
        refine GT_st rfl rfl rfl rfl (V_assign rfl rfl) ?_
        refine GT_nil ?_
        refine GE_ret Tryd.func34 rfl (fun w hw => ⟨?_, hw.nil⟩)
        rw [sErr, if_neg (by omega), if_pos (all_getD.2 fun i hi => hall i (by omega))]
    · exact ⟨Nat.zero_le _, fun i hi => absurd hi (Nat.not_lt_zero _)⟩
end
end Go.Proofs.YtdcjgjopmicidaaDoor
