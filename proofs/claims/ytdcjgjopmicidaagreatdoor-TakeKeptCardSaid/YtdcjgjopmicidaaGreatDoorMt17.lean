/- Texts of this proof, one behind the other: TdG. -/
import Derived.Test.YtdcjgjopmicidaaGreatDoorMt16
import Derived.Test.YtdcjgjopmicidaaGreatDoorMt9
/- The document's Cut and Number, walked. -/
namespace Go.Proofs.YtdcjgjopmicidaaGreatDoor
open Go.Sx Go.Proofs Go.RowKit

def eB (x : List UInt8) : List Value := [.string (stz x)]
theorem eB_len (x : List UInt8) : (eB x).length = 1 := rfl
theorem eB_one : ∀ x, ∀ u ∈ eB x, u.oneCell' = true := by intro x u hu; simp only [eB, List.mem_singleton] at hu; subst hu; rfl
theorem nst_fold : ∀ (l : List UInt8) (n : Int) (k : Nat), 0 ≤ n ∧ n < 10 ^ k → 0 ≤ l.foldl nst n ∧ l.foldl nst n < 10 ^ (k + l.length)
  | [], n, k, h => h
  | b :: l, n, k, h => by
    have h1 := nst_bd (10 ^ k) (b := b) h
    have h2 := nst_fold l (nst n b) (k + 1) ⟨h1.1, by rw [Int.pow_succ]; omega⟩
    rw [List.foldl_cons, List.length_cons, show k + (l.length + 1) = k + 1 + l.length by omega]
    exact h2
theorem nst_le {l : List UInt8} (h : l.length ≤ 12) : 0 ≤ l.foldl nst 0 ∧ l.foldl nst 0 < 1000000000000 := by
  have h1 := nst_fold l 0 0 ⟨Int.le_refl _, by decide⟩
  have h2 : (10 : Nat) ^ (0 + l.length) ≤ 10 ^ 12 := Nat.pow_le_pow_right (by decide) (by omega)
  have h3 : ((10 : Int) ^ (0 + l.length)) ≤ 10 ^ 12 := by exact_mod_cast h2
  have h4 : (10 : Int) ^ 12 = 1000000000000 := by decide
  omega
theorem nmr_bd (w : List UInt8) : -1000000000000 < nmr w ∧ nmr w < 1000000000000 := by
  have := nst_le (l := w.take 12) (by rw [List.length_take]; omega)
  unfold nmr; split <;> omega
theorem fold_succ {s : List UInt8} {k : Nat} (hk : k < s.length) : (s.take (k + 1)).foldl nst 0 = nst ((s.take k).foldl nst 0) (s.getD k 0) := by
  rw [List.take_add_one, List.getElem?_eq_getElem hk, List.foldl_append]; simp [List.getD, hk]
theorem nst_yes {n : Int} {b : UInt8} (h1 : (48 : Int) ≤ b.toNat) (h2 : (b.toNat : Int) ≤ 57) : nst n b = 10 * n + (b.toNat - 48 : Int) := if_pos (by omega)
theorem nst_no {n : Int} {b : UInt8} (h : ¬ ((48 : Int) ≤ b.toNat ∧ (b.toNat : Int) ≤ 57)) : nst n b = n := if_neg (by omega)
theorem head45 {s : List UInt8} : s.head? = some 45 ↔ 0 < s.length ∧ (((stz s).data.toList.getD 0 0).toNat : Int) = 45 := by
  cases s with
  | nil => exact ⟨fun h => (by cases h), fun h => absurd h.1 (by decide)⟩
  | cons b s =>
    show some b = some 45 ↔ 0 < s.length + 1 ∧ ((b.toNat : Nat) : Int) = 45
    constructor
    · intro h; injection h with h; subst h; exact ⟨by omega, rfl⟩
    · intro h
      have : b.toNat = (45 : UInt8).toNat := by have := h.2; show b.toNat = 45; omega
      rw [UInt8.toNat_inj.1 this]
theorem u8_eq {a b : UInt8} (h : (a.toNat : Int) = b.toNat) : a = b := UInt8.toNat_inj.1 (by omega)
section
variable {w : World}
set_option maxRecDepth 20000 in
theorem C_Number {s : List UInt8} : Con0 Tryz.prog 32 [.string (stz s)] w (I (nmr s)) := by
  have hsz := stz_size s
  have e0 : nmr s = if s.head? = some 45 then -((s.take 12).foldl nst 0) else (s.take 12).foldl nst 0 := rfl
  have hb := nst_le (l := s.take 12) (by rw [List.length_take]; omega)
  refine Ret_of (vs := [_]) hm none' Tryz.func32 rfl Tryz.ntmps32 rfl ?_
  dsimp only [slotsOf]
  refine GE_seq ?_
  refine GE_plain (.st 0 .nil) rfl ?_
  refine GT_st rfl rfl rfl rfl (V_assign rfl rfl) ?_
  refine GT_nil ?_
  refine GE_seq ?_
  refine GE_plain (.st 0 .nil) rfl ?_
  refine GT_st rfl rfl rfl rfl (V_assign rfl rfl) ?_
  refine GT_nil ?_
  refine GE_seq ?_
  refine GE_seq ?_
  refine GE_plain (.st 0 .nil) rfl ?_
  refine GT_st rfl rfl rfl rfl (V_assign rfl rfl) ?_
  refine GT_nil ?_
  refine GE_block ?_
  refine GE_to (GE_loop (ι := Nat) (fun k => s.length - k) (fun k => [(0, .string (stz s)), (3, I ((s.take k).foldl nst 0)), (4, I k)]) (fun k => []) (fun k => k ≤ s.length ∧ k ≤ 12) ?_ 0 ?_) ⟨rfl, rfl, rfl, trivial⟩ HS.nil
  · rintro k ⟨hk, hk12⟩ ih; have hf := nst_le (l := s.take k) (by rw [List.length_take]; omega)
    refine GE_seq ?_
    refine GE_seq ?_
    refine GE_plain (.st 0 (.st 1 (.st 2 (.st 3 (.st 4 (.st 5 (.st 6 (.st 7 .nil)))))))) rfl ?_
    refine GT_st rfl rfl rfl rfl (V_move rfl rfl) ?_
    refine GT_st rfl rfl rfl rfl (V_move rfl rfl) ?_
    refine GT_st rfl rfl rfl rfl (V_len_str rfl Tryz.underlying9 rfl) ?_
    refine GT_st rfl rfl rfl rfl (V_lss rfl rfl rfl) ?_
    refine GT_st rfl rfl rfl rfl (V_move rfl rfl) ?_
    first | refine GT_splitNot (d := 9) rfl (fun q1 => ?_) (fun q1 => ?_) | refine GT_split (d := 9) rfl (fun q1 => ?_) (fun q1 => ?_) | refine GT_splitNotB (d := 9) rfl (fun q1 => ?_) (fun q1 => ?_) | refine GT_splitB (d := 9) rfl (fun q1 => ?_) (fun q1 => ?_)
    · have hkl : k < s.length := (by omega); have hbl := (s.getD k 0).toNat_lt; have hst : ((stz s).data.toList.getD k 0).toNat = (s.getD k 0).toNat := rfl
      refine GT_st_g rfl rfl rfl rfl rfl rfl rfl (V_move rfl rfl) ?_
      refine GT_st_g rfl rfl rfl rfl rfl rfl rfl (V_lss rfl rfl rfl) ?_
      refine GT_st rfl rfl rfl rfl (V_pick_t rfl rfl rfl) ?_
      refine GT_nil ?_
      first | refine GE_condNot rfl (fun q2 => ?_) (fun q2 => ?_) | refine GE_cond rfl (fun q2 => ?_) (fun q2 => ?_) | refine GE_condNotB rfl (fun q2 => ?_) (fun q2 => ?_) | refine GE_condB rfl (fun q2 => ?_) (fun q2 => ?_)
      · skip
        refine GE_skip ?_
        refine GE_seq ?_
        refine GE_block ?_
        refine GE_seq ?_
        refine GE_slots (L' := [(0, _), (3, _), (4, _), (10, _), (11, _)]) ⟨rfl, rfl, rfl, rfl, rfl, trivial⟩ ?_
        refine GE_plain (.st 0 (.st 1 (.st 2 (.st 3 (.st 4 (.st 5 (.st 6 (.st 7 (.st 8 (.st 9 .nil)))))))))) rfl ?_
        refine GT_st rfl rfl rfl rfl (V_move rfl rfl) ?_
        refine GT_st rfl rfl rfl rfl (V_move rfl rfl) ?_
        refine GT_st rfl rfl rfl rfl (V_indexStr rfl rfl rfl Tryz.underlying9 rfl (by omega)) ?_
        refine GT_st rfl rfl rfl rfl (V_geq rfl rfl rfl) ?_
        refine GT_st rfl rfl rfl rfl (V_move rfl rfl) ?_
        first | refine GT_splitNot (d := 19) rfl (fun q3 => ?_) (fun q3 => ?_) | refine GT_split (d := 19) rfl (fun q3 => ?_) (fun q3 => ?_) | refine GT_splitNotB (d := 19) rfl (fun q3 => ?_) (fun q3 => ?_) | refine GT_splitB (d := 19) rfl (fun q3 => ?_) (fun q3 => ?_)
        · skip
          refine GT_st_g rfl rfl rfl rfl rfl rfl rfl (V_move rfl rfl) ?_
          refine GT_st_g rfl rfl rfl rfl rfl rfl rfl (V_move rfl rfl) ?_
          refine GT_st_g rfl rfl rfl rfl rfl rfl rfl (V_indexStr rfl rfl rfl Tryz.underlying9 rfl (by omega)) ?_
          refine GT_st_g rfl rfl rfl rfl rfl rfl rfl (V_leq rfl rfl rfl) ?_
          refine GT_st rfl rfl rfl rfl (V_pick_t rfl rfl rfl) ?_
          refine GT_nil ?_
          first | refine GE_condNot rfl (fun q4 => ?_) (fun q4 => ?_) | refine GE_cond rfl (fun q4 => ?_) (fun q4 => ?_) | refine GE_condNotB rfl (fun q4 => ?_) (fun q4 => ?_) | refine GE_condB rfl (fun q4 => ?_) (fun q4 => ?_)
          · skip
            refine GE_slots (L' := [(0, _), (3, _), (4, _), (10, _), (11, _), (20, _), (21, _), (22, _), (23, _)]) ⟨rfl, rfl, rfl, rfl, rfl, rfl, rfl, rfl, rfl, trivial⟩ ?_
            refine GE_plain (.st 0 (.st 1 (.st 2 (.st 3 (.st 4 (.st 5 (.st 6 (.st 7 (.ld 8 [] .nil))))))))) rfl ?_
            refine GT_st rfl rfl rfl rfl (V_move rfl rfl) ?_
            refine GT_st rfl rfl rfl rfl (V_mul rfl rfl rfl (wrap_i64 (by omega))) ?_
            refine GT_st rfl rfl rfl rfl (V_move rfl rfl) ?_
            refine GT_st rfl rfl rfl rfl (V_move rfl rfl) ?_
            refine GT_st rfl rfl rfl rfl (V_indexStr rfl rfl rfl Tryz.underlying9 rfl (by omega)) ?_
            refine GT_st rfl rfl rfl rfl (V_sub rfl rfl rfl (wrap_u8 (by omega))) ?_
            refine GT_st rfl rfl rfl rfl (V_convII rfl rfl (by rw [Tryz.underlying5]; rfl) Tryz.underlying2 (wrap_i64 (by omega))) ?_
            refine GT_st rfl rfl rfl rfl (V_add rfl rfl rfl (wrap_i64 (by omega))) ?_
            refine GT_ldv rfl rfl rfl rfl rfl (V_assign rfl rfl) (GR_nil) ?_
            refine GT_nil ?_
            refine GE_inBlock ?_
            refine GE_slots (L' := [(0, _), (3, _), (4, _), (10, _), (11, _), (20, _), (21, _), (22, _), (23, _)]) ⟨rfl, rfl, rfl, rfl, rfl, rfl, rfl, rfl, rfl, trivial⟩ ?_
            refine GE_plain (.st 0 (.st 1 (.ld 2 [] .nil))) rfl ?_
            refine GT_st rfl rfl rfl rfl (V_move rfl rfl) ?_
            refine GT_st rfl rfl rfl rfl (V_add rfl rfl rfl (wrap_i64 (by omega))) ?_
            refine GT_ldv rfl rfl rfl rfl rfl (V_assign rfl rfl) (GR_nil) ?_
            refine GT_nil ?_
            first
              | exact GE_to (ih (k + 1) ⟨by omega, by omega⟩ (by omega)) ⟨rfl, lookI rfl (by rw [fold_succ hkl, nst_yes (by omega) (by omega)]), rfl, trivial⟩ HS.nil
              | exact GE_to (ih (k + 1) ⟨by omega, by omega⟩ (by omega)) ⟨rfl, lookI rfl (by rw [fold_succ hkl, nst_no (by omega)]), rfl, trivial⟩ HS.nil
          · skip
            refine GE_skip ?_
            refine GE_inBlock ?_
            refine GE_slots (L' := [(0, _), (3, _), (4, _), (10, _), (11, _), (20, _), (21, _), (22, _), (23, _)]) ⟨rfl, rfl, rfl, rfl, rfl, rfl, rfl, rfl, rfl, trivial⟩ ?_
            refine GE_plain (.st 0 (.st 1 (.ld 2 [] .nil))) rfl ?_
            refine GT_st rfl rfl rfl rfl (V_move rfl rfl) ?_
            refine GT_st rfl rfl rfl rfl (V_add rfl rfl rfl (wrap_i64 (by omega))) ?_
            refine GT_ldv rfl rfl rfl rfl rfl (V_assign rfl rfl) (GR_nil) ?_
            refine GT_nil ?_
            first
              | exact GE_to (ih (k + 1) ⟨by omega, by omega⟩ (by omega)) ⟨rfl, lookI rfl (by rw [fold_succ hkl, nst_yes (by omega) (by omega)]), rfl, trivial⟩ HS.nil
              | exact GE_to (ih (k + 1) ⟨by omega, by omega⟩ (by omega)) ⟨rfl, lookI rfl (by rw [fold_succ hkl, nst_no (by omega)]), rfl, trivial⟩ HS.nil
        · skip
          refine GT_skip rfl rfl rfl rfl rfl (by decide) rfl rfl ?_
          refine GT_skip rfl rfl rfl rfl rfl (by decide) rfl rfl ?_
          refine GT_skip rfl rfl rfl rfl rfl (by decide) rfl rfl ?_
          refine GT_skip rfl rfl rfl rfl rfl (by decide) rfl rfl ?_
          refine GT_st rfl rfl rfl rfl (V_pick_f rfl rfl rfl) ?_
          refine GT_nil ?_
          refine GE_cond_f rfl ?_
          refine GE_skip ?_
          refine GE_inBlock ?_
          refine GE_slots (L' := [(0, _), (3, _), (4, _), (10, _), (11, _), (20, _), (21, _), (22, _), (23, _)]) ⟨rfl, rfl, rfl, rfl, rfl, rfl, rfl, rfl, rfl, trivial⟩ ?_
          refine GE_plain (.st 0 (.st 1 (.ld 2 [] .nil))) rfl ?_
          refine GT_st rfl rfl rfl rfl (V_move rfl rfl) ?_
          refine GT_st rfl rfl rfl rfl (V_add rfl rfl rfl (wrap_i64 (by omega))) ?_
          refine GT_ldv rfl rfl rfl rfl rfl (V_assign rfl rfl) (GR_nil) ?_
          refine GT_nil ?_
          first
            | exact GE_to (ih (k + 1) ⟨by omega, by omega⟩ (by omega)) ⟨rfl, lookI rfl (by rw [fold_succ hkl, nst_yes (by omega) (by omega)]), rfl, trivial⟩ HS.nil
            | exact GE_to (ih (k + 1) ⟨by omega, by omega⟩ (by omega)) ⟨rfl, lookI rfl (by rw [fold_succ hkl, nst_no (by omega)]), rfl, trivial⟩ HS.nil
      · have ek : s.take k = s.take 12 := (by rw [show k = 12 by omega])
        refine GE_exit rfl ?_
        refine GE_seq ?_
        refine GE_seq ?_
        refine GE_slots (L' := [(0, _), (3, _)]) ⟨rfl, rfl, trivial⟩ ?_
        refine GE_plain (.st 0 (.st 1 (.st 2 (.st 3 (.st 4 (.st 5 (.st 6 (.st 7 .nil)))))))) rfl ?_
        refine GT_st rfl rfl rfl rfl (V_move rfl rfl) ?_
        refine GT_st rfl rfl rfl rfl (V_len_str rfl Tryz.underlying9 rfl) ?_
        refine GT_st rfl rfl rfl rfl (V_gtr rfl rfl rfl) ?_
        refine GT_st rfl rfl rfl rfl (V_move rfl rfl) ?_
        first | refine GT_splitNot (d := 36) rfl (fun h1 => ?_) (fun h1 => ?_) | refine GT_split (d := 36) rfl (fun h1 => ?_) (fun h1 => ?_) | refine GT_splitNotB (d := 36) rfl (fun h1 => ?_) (fun h1 => ?_) | refine GT_splitB (d := 36) rfl (fun h1 => ?_) (fun h1 => ?_)
        · skip
          refine GT_st_g rfl rfl rfl rfl rfl rfl rfl (V_move rfl rfl) ?_
          refine GT_st_g rfl rfl rfl rfl rfl rfl rfl (V_indexStr (k := 0) rfl rfl rfl Tryz.underlying9 rfl (by omega)) ?_
          refine GT_st_g rfl rfl rfl rfl rfl rfl rfl (V_eql rfl rfl rfl) ?_
          refine GT_st rfl rfl rfl rfl (V_pick_t rfl rfl rfl) ?_
          refine GT_nil ?_
          first | refine GE_condNot rfl (fun h2 => ?_) (fun h2 => ?_) | refine GE_cond rfl (fun h2 => ?_) (fun h2 => ?_) | refine GE_condNotB rfl (fun h2 => ?_) (fun h2 => ?_) | refine GE_condB rfl (fun h2 => ?_) (fun h2 => ?_)
          · skip
            refine GE_seq ?_
            refine GE_slots (L' := [(3, _)]) ⟨rfl, trivial⟩ ?_
            refine GE_plain (.st 0 (.st 1 (.st 2 .nil))) rfl ?_
            refine GT_st rfl rfl rfl rfl (V_move rfl rfl) ?_
            refine GT_st rfl rfl rfl rfl (V_neg rfl rfl (wrap_i64 (by omega))) ?_
            refine GT_st rfl rfl rfl rfl (V_assign rfl rfl) ?_
            refine GT_nil ?_
            refine GE_ret Tryz.func32 rfl (fun w hw => ⟨?_, hw.nil⟩)
            refine congrArg I ?_; rw [e0, ← ek]; first | (rw [if_pos (head45.2 ⟨by omega, by omega⟩)]; omega) | rw [if_neg (fun q => by have := head45.1 q; omega)]
          · skip
            refine GE_skip ?_
            refine GE_seq ?_
            refine GE_slots (L' := [(3, _)]) ⟨rfl, trivial⟩ ?_
            refine GE_plain (.st 0 (.st 1 .nil)) rfl ?_
            refine GT_st rfl rfl rfl rfl (V_move rfl rfl) ?_
            refine GT_st rfl rfl rfl rfl (V_assign rfl rfl) ?_
            refine GT_nil ?_
            refine GE_ret Tryz.func32 rfl (fun w hw => ⟨?_, hw.nil⟩)
            refine congrArg I ?_; rw [e0, ← ek]; first | (rw [if_pos (head45.2 ⟨by omega, by omega⟩)]; omega) | rw [if_neg (fun q => by have := head45.1 q; omega)]
        · skip
          refine GT_skip rfl rfl rfl rfl rfl (by decide) rfl rfl ?_
          refine GT_skip rfl rfl rfl rfl rfl (by decide) rfl rfl ?_
          refine GT_skip rfl rfl rfl rfl rfl (by decide) rfl rfl ?_
          refine GT_st rfl rfl rfl rfl (V_pick_f rfl rfl rfl) ?_
          refine GT_nil ?_
          refine GE_cond_f rfl ?_
          refine GE_skip ?_
          refine GE_seq ?_
          refine GE_slots (L' := [(3, _)]) ⟨rfl, trivial⟩ ?_
          refine GE_plain (.st 0 (.st 1 .nil)) rfl ?_
          refine GT_st rfl rfl rfl rfl (V_move rfl rfl) ?_
          refine GT_st rfl rfl rfl rfl (V_assign rfl rfl) ?_
          refine GT_nil ?_
          refine GE_ret Tryz.func32 rfl (fun w hw => ⟨?_, hw.nil⟩)
          refine congrArg I ?_; rw [e0, ← ek]; first | (rw [if_pos (head45.2 ⟨by omega, by omega⟩)]; omega) | rw [if_neg (fun q => by have := head45.1 q; omega)]
    · have ek : s.take k = s.take 12 := (by rw [List.take_of_length_le (by omega), List.take_of_length_le (by omega)])
      refine GT_skip rfl rfl rfl rfl rfl (by decide) rfl rfl ?_
      refine GT_skip rfl rfl rfl rfl rfl (by decide) rfl rfl ?_
      refine GT_st rfl rfl rfl rfl (V_pick_f rfl rfl rfl) ?_
      refine GT_nil ?_
      refine GE_cond_f rfl ?_
      refine GE_exit rfl ?_
      refine GE_seq ?_
      refine GE_seq ?_
      refine GE_slots (L' := [(0, _), (3, _)]) ⟨rfl, rfl, trivial⟩ ?_
      refine GE_plain (.st 0 (.st 1 (.st 2 (.st 3 (.st 4 (.st 5 (.st 6 (.st 7 .nil)))))))) rfl ?_
      refine GT_st rfl rfl rfl rfl (V_move rfl rfl) ?_
      refine GT_st rfl rfl rfl rfl (V_len_str rfl Tryz.underlying9 rfl) ?_
      refine GT_st rfl rfl rfl rfl (V_gtr rfl rfl rfl) ?_
      refine GT_st rfl rfl rfl rfl (V_move rfl rfl) ?_
      first | refine GT_splitNot (d := 36) rfl (fun h1 => ?_) (fun h1 => ?_) | refine GT_split (d := 36) rfl (fun h1 => ?_) (fun h1 => ?_) | refine GT_splitNotB (d := 36) rfl (fun h1 => ?_) (fun h1 => ?_) | refine GT_splitB (d := 36) rfl (fun h1 => ?_) (fun h1 => ?_)
      · skip
        refine GT_st_g rfl rfl rfl rfl rfl rfl rfl (V_move rfl rfl) ?_
        refine GT_st_g rfl rfl rfl rfl rfl rfl rfl (V_indexStr (k := 0) rfl rfl rfl Tryz.underlying9 rfl (by omega)) ?_
        refine GT_st_g rfl rfl rfl rfl rfl rfl rfl (V_eql rfl rfl rfl) ?_
        refine GT_st rfl rfl rfl rfl (V_pick_t rfl rfl rfl) ?_
        refine GT_nil ?_
        first | refine GE_condNot rfl (fun h2 => ?_) (fun h2 => ?_) | refine GE_cond rfl (fun h2 => ?_) (fun h2 => ?_) | refine GE_condNotB rfl (fun h2 => ?_) (fun h2 => ?_) | refine GE_condB rfl (fun h2 => ?_) (fun h2 => ?_)
        · skip
          refine GE_seq ?_
          refine GE_slots (L' := [(3, _)]) ⟨rfl, trivial⟩ ?_
          refine GE_plain (.st 0 (.st 1 (.st 2 .nil))) rfl ?_
          refine GT_st rfl rfl rfl rfl (V_move rfl rfl) ?_
          refine GT_st rfl rfl rfl rfl (V_neg rfl rfl (wrap_i64 (by omega))) ?_
          refine GT_st rfl rfl rfl rfl (V_assign rfl rfl) ?_
          refine GT_nil ?_
          refine GE_ret Tryz.func32 rfl (fun w hw => ⟨?_, hw.nil⟩)
          refine congrArg I ?_; rw [e0, ← ek]; first | (rw [if_pos (head45.2 ⟨by omega, by omega⟩)]; omega) | rw [if_neg (fun q => by have := head45.1 q; omega)]
        · skip
          refine GE_skip ?_
          refine GE_seq ?_
          refine GE_slots (L' := [(3, _)]) ⟨rfl, trivial⟩ ?_
          refine GE_plain (.st 0 (.st 1 .nil)) rfl ?_
          refine GT_st rfl rfl rfl rfl (V_move rfl rfl) ?_
          refine GT_st rfl rfl rfl rfl (V_assign rfl rfl) ?_
          refine GT_nil ?_
          refine GE_ret Tryz.func32 rfl (fun w hw => ⟨?_, hw.nil⟩)
          refine congrArg I ?_; rw [e0, ← ek]; first | (rw [if_pos (head45.2 ⟨by omega, by omega⟩)]; omega) | rw [if_neg (fun q => by have := head45.1 q; omega)]
      · skip
        refine GT_skip rfl rfl rfl rfl rfl (by decide) rfl rfl ?_
        refine GT_skip rfl rfl rfl rfl rfl (by decide) rfl rfl ?_
        refine GT_skip rfl rfl rfl rfl rfl (by decide) rfl rfl ?_
        refine GT_st rfl rfl rfl rfl (V_pick_f rfl rfl rfl) ?_
        refine GT_nil ?_
        refine GE_cond_f rfl ?_
        refine GE_skip ?_
        refine GE_seq ?_
        refine GE_slots (L' := [(3, _)]) ⟨rfl, trivial⟩ ?_
        refine GE_plain (.st 0 (.st 1 .nil)) rfl ?_
        refine GT_st rfl rfl rfl rfl (V_move rfl rfl) ?_
        refine GT_st rfl rfl rfl rfl (V_assign rfl rfl) ?_
        refine GT_nil ?_
        refine GE_ret Tryz.func32 rfl (fun w hw => ⟨?_, hw.nil⟩)
        refine congrArg I ?_; rw [e0, ← ek]; first | (rw [if_pos (head45.2 ⟨by omega, by omega⟩)]; omega) | rw [if_neg (fun q => by have := head45.1 q; omega)]
  · exact ⟨Nat.zero_le _, Nat.zero_le _⟩
/-- the state of the cut: what is cut off, and where the next piece begins -/
def cutOk (c : UInt8) (s : List UInt8) (i fr : Nat) (out : List (List UInt8)) : Prop :=
  (i ≤ s.length ∧ fr ≤ i ∧ c ∉ (s.drop fr).take (i - fr) ∧ pcs c s = out ++ pcs c (s.drop fr)) ∨ (i = s.length + 1 ∧ pcs c s = out)
theorem cutOk_0 (c : UInt8) (s : List UInt8) : cutOk c s 0 0 [] := .inl ⟨Nat.zero_le _, Nat.le_refl _, by simp, rfl⟩
theorem drop_split {s : List UInt8} {i fr : Nat} (hi : i < s.length) (hf : fr ≤ i) : s.drop fr = (s.drop fr).take (i - fr) ++ s.getD i 0 :: s.drop (i + 1) := by
  conv => lhs; rw [← List.take_append_drop (i - fr) (s.drop fr), List.drop_drop, show fr + (i - fr) = i by omega, List.drop_eq_getElem_cons hi]
  simp [List.getD, hi]
theorem cutOk_sep {c : UInt8} {s : List UInt8} {i fr : Nat} {out : List (List UInt8)} (h : cutOk c s i fr out) (hi : i < s.length) (e : s.getD i 0 = c) : cutOk c s (i + 1) (i + 1) (out ++ [(s.drop fr).take (i - fr)]) := by
  rcases h with ⟨h1, h2, h3, h4⟩ | ⟨h1, _⟩
  · refine .inl ⟨hi, Nat.le_refl _, by simp, ?_⟩
    have e5 : pcs c (s.drop fr) = (s.drop fr).take (i - fr) :: pcs c (s.drop (i + 1)) := (congrArg (pcs c) (drop_split hi h2)).trans (by rw [e, pcs_app h3])
    rw [h4, e5, List.append_assoc]; rfl
  · omega
theorem cutOk_no {c : UInt8} {s : List UInt8} {i fr : Nat} {out : List (List UInt8)} (h : cutOk c s i fr out) (hi : i < s.length) (e : ¬ s.getD i 0 = c) : cutOk c s (i + 1) fr out := by
  rcases h with ⟨h1, h2, h3, h4⟩ | ⟨h1, _⟩
  · refine .inl ⟨hi, by omega, ?_, h4⟩
    have hl : i - fr < (s.drop fr).length := by rw [List.length_drop]; omega
    rw [show i + 1 - fr = (i - fr) + 1 by omega, List.take_add_one, List.getElem?_eq_getElem hl]
    intro hm
    rcases List.mem_append.1 hm with hm | hm
    · exact h3 hm
    · rw [List.getElem_drop] at hm
      simp only [Option.toList, List.mem_singleton] at hm
      have e3 : s[fr + (i - fr)]'(by omega) = s[i]'hi := by congr 1; omega
      exact e (by rw [hm, e3]; simp [List.getD, hi])
  · omega
theorem cutOk_end {c : UInt8} {s : List UInt8} {i fr : Nat} {out : List (List UInt8)} (h : cutOk c s i fr out) (hi : i = s.length) : cutOk c s (i + 1) (i + 1) (out ++ [(s.drop fr).take (i - fr)]) := by
  rcases h with ⟨h1, h2, h3, h4⟩ | ⟨h1, _⟩
  · refine .inr ⟨by omega, ?_⟩
    have e : (s.drop fr).take (i - fr) = s.drop fr := List.take_of_length_le (by rw [List.length_drop]; omega)
    rw [h4, e, pcs_none (e ▸ h3)]
  · omega
theorem cutOk_fr {c : UInt8} {s : List UInt8} {i fr : Nat} {out : List (List UInt8)} (h : cutOk c s i fr out) (hi : i ≤ s.length) : fr ≤ i := by
  rcases h with ⟨_, h2, _⟩ | ⟨h1, _⟩
  · exact h2
  · omega
theorem cutOk_out {c : UInt8} {s : List UInt8} {i fr m : Nat} {out : List (List UInt8)} (h : cutOk c s i fr out) (hi : i = s.length + 1 ∨ m ≤ out.length) (hm : out.length ≤ m) : out = (pcs c s).take m := by
  rcases h with ⟨h1, _, _, h4⟩ | ⟨_, h4⟩
  · rcases hi with hi | hi
    · omega
    · rw [h4, show m = out.length by omega, List.take_left]
  · rw [h4, List.take_of_length_le hm]
set_option maxRecDepth 20000 in
theorem C_Cut {s : List UInt8} {c : UInt8} {m : Nat} (hs : s.length ≤ 1000000) (hmm : m ≤ 100) : Con Tryz.prog 31 [.string (stz s), .int .u8 c.toNat, I m] w (fun y : Option Addr × Nat × Items => Own 1 9 eB ((pcs c s).take m) (.slice y.1 ((pcs c s).take m).length y.2.1) y.2.2)
    (fun y => .slice y.1 ((pcs c s).take m).length y.2.1) (fun y => y.2.2) := by
  have hsz := stz_size s
  have hcl := c.toNat_lt
  refine Ret_of (vs := [_, _, _]) hm none' Tryz.func31 rfl Tryz.ntmps31 rfl ?_
  dsimp only [slotsOf]
  refine GE_seq ?_
  refine GE_plain (.st 0 .nil) rfl ?_
  refine GT_st rfl rfl rfl rfl (V_assign rfl rfl) ?_
  refine GT_nil ?_
  refine GE_seq ?_
  refine GE_plain (.st 0 .nil) rfl ?_
  refine GT_st rfl rfl rfl rfl (V_assign rfl rfl) ?_
  refine GT_nil ?_
  refine GE_seq ?_
  refine GE_plain (.st 0 .nil) rfl ?_
  refine GT_st rfl rfl rfl rfl (V_assign rfl rfl) ?_
  refine GT_nil ?_
  refine GE_seq ?_
  refine GE_seq ?_
  refine GE_plain (.st 0 .nil) rfl ?_
  refine GT_st rfl rfl rfl rfl (V_assign rfl rfl) ?_
  refine GT_nil ?_
  refine GE_block ?_
  refine GE_to (GE_loop (ι := Nat × Nat × List (List UInt8) × (Option Addr × Nat × Items)) (fun z => s.length + 1 - z.1) (fun z => [(0, .string (stz s)), (1, .int .u8 c.toNat), (2, I m), (7, .slice z.2.2.2.1 z.2.2.1.length z.2.2.2.2.1), (8, I z.2.1), (9, I z.1)]) (fun z => z.2.2.2.2.2) (fun z => (z.1 ≤ s.length + 1 ∧ z.2.2.1.length ≤ m) ∧ cutOk c s z.1 z.2.1 z.2.2.1 ∧ Own 1 9 eB z.2.2.1 (.slice z.2.2.2.1 z.2.2.1.length z.2.2.2.2.1) z.2.2.2.2.2) ?_ (0, 0, [], (none, 0, [])) ?_) ⟨rfl, rfl, rfl, rfl, rfl, rfl, trivial⟩ HS.nil
  · rintro ⟨i, fr, out, y⟩ ⟨⟨hi, hom⟩, hk, hO⟩ ih; dsimp only at hi hom hk hO ih ⊢; have hfr := cutOk_fr hk
    refine GE_seq ?_
    refine GE_seq ?_
    refine GE_plain (.st 0 (.st 1 (.st 2 (.st 3 (.st 4 (.st 5 (.st 6 (.st 7 (.st 8 (.st 9 .nil)))))))))) rfl ?_
    refine GT_st rfl rfl rfl rfl (V_move rfl rfl) ?_
    refine GT_st rfl rfl rfl rfl (V_move rfl rfl) ?_
    refine GT_st rfl rfl rfl rfl (V_len_str rfl Tryz.underlying9 rfl) ?_
    refine GT_st rfl rfl rfl rfl (V_leq rfl rfl rfl) ?_
    refine GT_st rfl rfl rfl rfl (V_move rfl rfl) ?_
    first | refine GT_splitNot (d := 14) rfl (fun q1 => ?_) (fun q1 => ?_) | refine GT_split (d := 14) rfl (fun q1 => ?_) (fun q1 => ?_) | refine GT_splitNotB (d := 14) rfl (fun q1 => ?_) (fun q1 => ?_) | refine GT_splitB (d := 14) rfl (fun q1 => ?_) (fun q1 => ?_)
    · skip
      refine GT_st_g rfl rfl rfl rfl rfl rfl rfl (V_move rfl rfl) ?_
      refine GT_st_g rfl rfl rfl rfl rfl rfl rfl (V_len rfl Tryz.underlying75 rfl) ?_
      refine GT_st_g rfl rfl rfl rfl rfl rfl rfl (V_move rfl rfl) ?_
      refine GT_st_g rfl rfl rfl rfl rfl rfl rfl (V_lss rfl rfl rfl) ?_
      refine GT_st rfl rfl rfl rfl (V_pick_t rfl rfl rfl) ?_
      refine GT_nil ?_
      first | refine GE_condNot rfl (fun q2 => ?_) (fun q2 => ?_) | refine GE_cond rfl (fun q2 => ?_) (fun q2 => ?_) | refine GE_condNotB rfl (fun q2 => ?_) (fun q2 => ?_) | refine GE_condB rfl (fun q2 => ?_) (fun q2 => ?_)
      · have hfr2 := hfr (by omega)
        refine GE_skip ?_
        refine GE_seq ?_
        refine GE_block ?_
        refine GE_seq ?_
        refine GE_slots (L' := [(0, _), (1, _), (2, _), (7, _), (8, _), (9, _), (15, _), (16, _), (17, _), (18, _)]) ⟨rfl, rfl, rfl, rfl, rfl, rfl, rfl, rfl, rfl, rfl, trivial⟩ ?_
        refine GE_plain (.st 0 (.st 1 (.st 2 (.st 3 (.st 4 (.st 5 (.st 6 (.st 7 (.st 8 (.st 9 (.st 10 .nil))))))))))) rfl ?_
        refine GT_st rfl rfl rfl rfl (V_move rfl rfl) ?_
        refine GT_st rfl rfl rfl rfl (V_move rfl rfl) ?_
        refine GT_st rfl rfl rfl rfl (V_len_str rfl Tryz.underlying9 rfl) ?_
        refine GT_st rfl rfl rfl rfl (V_eql rfl rfl rfl) ?_
        refine GT_st rfl rfl rfl rfl (V_move rfl rfl) ?_
        first | refine GT_splitNot (d := 26) rfl (fun q3 => ?_) (fun q3 => ?_) | refine GT_split (d := 26) rfl (fun q3 => ?_) (fun q3 => ?_) | refine GT_splitNotB (d := 26) rfl (fun q3 => ?_) (fun q3 => ?_) | refine GT_splitB (d := 26) rfl (fun q3 => ?_) (fun q3 => ?_)
        · skip
          refine GT_skip rfl rfl rfl rfl rfl (by decide) rfl rfl ?_
          refine GT_skip rfl rfl rfl rfl rfl (by decide) rfl rfl ?_
          refine GT_skip rfl rfl rfl rfl rfl (by decide) rfl rfl ?_
          refine GT_skip rfl rfl rfl rfl rfl (by decide) rfl rfl ?_
          refine GT_skip rfl rfl rfl rfl rfl (by decide) rfl rfl ?_
          refine GT_st rfl rfl rfl rfl (V_pick_t rfl rfl rfl) ?_
          refine GT_nil ?_
          refine GE_cond_t rfl ?_
          refine GE_seq ?_
          refine GE_slots (L' := [(0, _), (1, _), (2, _), (7, _), (8, _), (9, _), (15, _), (16, _), (17, _), (18, _), (27, _), (28, _), (29, _), (30, _), (31, _)]) ⟨rfl, rfl, rfl, rfl, rfl, rfl, rfl, rfl, rfl, rfl, rfl, rfl, rfl, rfl, rfl, trivial⟩ ?_
          refine GE_plain (.st 0 (.st 1 (.st 2 (.st 3 (.st 4 (.ld 5 [] (.ld 6 [] (.ld 7 [] .nil)))))))) rfl ?_
          refine GT_st rfl rfl rfl rfl (V_move rfl rfl) ?_
          refine GT_st rfl rfl rfl rfl (V_move rfl rfl) ?_
          refine GT_st rfl rfl rfl rfl (V_move rfl rfl) ?_
          refine GT_st rfl rfl rfl rfl (V_move rfl rfl) ?_
          refine GT_st rfl rfl rfl rfl (V_sliceStrL (lo := fr) (hi := i) rfl rfl rfl rfl Tryz.underlying9 rfl rfl ⟨by omega, by omega⟩) ?_
          refine GT_buildSlice (z := [_]) rfl rfl rfl rfl rfl Tryz.underlying75 zc_9 sz_9 (by decide) rfl rfl (fun _ => GR_nil) (fun b38 => ?_)
          refine GT_append (enc := eB) (m := [(s.drop fr).take (i - fr)]) rfl rfl rfl rfl rfl rfl rfl hO (fun w m => RdL.own' m eB_len) Tryz.underlying75 zc_9 sz_9 ⟨rfl, by decide⟩ by_9 ⟨by simp only [List.length_singleton]; omega, by simp only [List.length_singleton]; omega⟩ eB_len eB_one (fun _ _ _ _ => GR_nil) (fun A3 c3 I3 hO3 => ?_)
          refine GT_ldv rfl rfl rfl rfl rfl (V_assign rfl rfl) (GR_nil) ?_
          refine GT_nil ?_
          refine GE_slots (L' := [(0, _), (1, _), (2, _), (7, _), (9, _), (15, _), (16, _), (17, _), (18, _), (27, _), (28, _), (29, _), (30, _), (31, _)]) ⟨rfl, rfl, rfl, rfl, rfl, rfl, rfl, rfl, rfl, rfl, rfl, rfl, rfl, rfl, trivial⟩ ?_
          refine GE_plain (.st 0 (.st 1 (.st 2 .nil))) rfl ?_
          refine GT_st rfl rfl rfl rfl (V_move rfl rfl) ?_
          refine GT_st rfl rfl rfl rfl (V_add rfl rfl rfl (wrap_i64 (by omega))) ?_
          refine GT_st rfl rfl rfl rfl (V_assign rfl rfl) ?_
          refine GT_nil ?_
          refine GE_inBlock ?_
          refine GE_plain (.st 0 (.st 1 (.ld 2 [] .nil))) rfl ?_
          refine GT_st rfl rfl rfl rfl (V_move rfl rfl) ?_
          refine GT_st rfl rfl rfl rfl (V_add rfl rfl rfl (wrap_i64 (by omega))) ?_
          refine GT_ldv rfl rfl rfl rfl rfl (V_assign rfl rfl) (GR_nil) ?_
          refine GT_nil ?_
          first
            | exact GE_to (ih (i + 1, i + 1, out ++ [(s.drop fr).take (i - fr)], (A3, c3, I3)) ⟨⟨by dsimp only; omega, by dsimp only; rw [List.length_append, List.length_singleton]; omega⟩, by first | exact cutOk_end hk (by omega) | exact cutOk_sep hk (by omega) (u8_eq (by omega)), hO3⟩ (by dsimp only; omega)) ⟨rfl, rfl, rfl, rfl, lookI rfl (by dsimp only; omega), lookI rfl (by dsimp only; omega), trivial⟩ HS.last
            | exact GE_to (ih (i + 1, fr, out, y) ⟨⟨by dsimp only; omega, hom⟩, cutOk_no hk (by omega) (fun q => by rw [← q] at q4; exact q4 rfl), hO⟩ (by dsimp only; omega)) ⟨rfl, rfl, rfl, rfl, rfl, lookI rfl (by dsimp only; omega), trivial⟩ HS.last
        · skip
          refine GT_st_g rfl rfl rfl rfl rfl rfl rfl (V_move rfl rfl) ?_
          refine GT_st_g rfl rfl rfl rfl rfl rfl rfl (V_move rfl rfl) ?_
          refine GT_st_g rfl rfl rfl rfl rfl rfl rfl (V_indexStr rfl rfl rfl Tryz.underlying9 rfl (by omega)) ?_
          refine GT_st_g rfl rfl rfl rfl rfl rfl rfl (V_move rfl rfl) ?_
          refine GT_st_g rfl rfl rfl rfl rfl rfl rfl (V_eql rfl rfl rfl) ?_
          refine GT_st rfl rfl rfl rfl (V_pick_f rfl rfl rfl) ?_
          refine GT_nil ?_
          first | refine GE_condNot rfl (fun q4 => ?_) (fun q4 => ?_) | refine GE_cond rfl (fun q4 => ?_) (fun q4 => ?_) | refine GE_condNotB rfl (fun q4 => ?_) (fun q4 => ?_) | refine GE_condB rfl (fun q4 => ?_) (fun q4 => ?_)
          · skip
            refine GE_seq ?_
            refine GE_slots (L' := [(0, _), (1, _), (2, _), (7, _), (8, _), (9, _), (15, _), (16, _), (17, _), (18, _), (27, _), (28, _), (29, _), (30, _), (31, _)]) ⟨rfl, rfl, rfl, rfl, rfl, rfl, rfl, rfl, rfl, rfl, rfl, rfl, rfl, rfl, rfl, trivial⟩ ?_
            refine GE_plain (.st 0 (.st 1 (.st 2 (.st 3 (.st 4 (.ld 5 [] (.ld 6 [] (.ld 7 [] .nil)))))))) rfl ?_
            refine GT_st rfl rfl rfl rfl (V_move rfl rfl) ?_
            refine GT_st rfl rfl rfl rfl (V_move rfl rfl) ?_
            refine GT_st rfl rfl rfl rfl (V_move rfl rfl) ?_
            refine GT_st rfl rfl rfl rfl (V_move rfl rfl) ?_
            refine GT_st rfl rfl rfl rfl (V_sliceStrL (lo := fr) (hi := i) rfl rfl rfl rfl Tryz.underlying9 rfl rfl ⟨by omega, by omega⟩) ?_
            refine GT_buildSlice (z := [_]) rfl rfl rfl rfl rfl Tryz.underlying75 zc_9 sz_9 (by decide) rfl rfl (fun _ => GR_nil) (fun b38 => ?_)
            refine GT_append (enc := eB) (m := [(s.drop fr).take (i - fr)]) rfl rfl rfl rfl rfl rfl rfl hO (fun w m => RdL.own' m eB_len) Tryz.underlying75 zc_9 sz_9 ⟨rfl, by decide⟩ by_9 ⟨by simp only [List.length_singleton]; omega, by simp only [List.length_singleton]; omega⟩ eB_len eB_one (fun _ _ _ _ => GR_nil) (fun A3 c3 I3 hO3 => ?_)
            refine GT_ldv rfl rfl rfl rfl rfl (V_assign rfl rfl) (GR_nil) ?_
            refine GT_nil ?_
            refine GE_slots (L' := [(0, _), (1, _), (2, _), (7, _), (9, _), (15, _), (16, _), (17, _), (18, _), (27, _), (28, _), (29, _), (30, _), (31, _)]) ⟨rfl, rfl, rfl, rfl, rfl, rfl, rfl, rfl, rfl, rfl, rfl, rfl, rfl, rfl, trivial⟩ ?_
            refine GE_plain (.st 0 (.st 1 (.st 2 .nil))) rfl ?_
            refine GT_st rfl rfl rfl rfl (V_move rfl rfl) ?_
            refine GT_st rfl rfl rfl rfl (V_add rfl rfl rfl (wrap_i64 (by omega))) ?_
            refine GT_st rfl rfl rfl rfl (V_assign rfl rfl) ?_
            refine GT_nil ?_
            refine GE_inBlock ?_
            refine GE_plain (.st 0 (.st 1 (.ld 2 [] .nil))) rfl ?_
            refine GT_st rfl rfl rfl rfl (V_move rfl rfl) ?_
            refine GT_st rfl rfl rfl rfl (V_add rfl rfl rfl (wrap_i64 (by omega))) ?_
            refine GT_ldv rfl rfl rfl rfl rfl (V_assign rfl rfl) (GR_nil) ?_
            refine GT_nil ?_
            first
              | exact GE_to (ih (i + 1, i + 1, out ++ [(s.drop fr).take (i - fr)], (A3, c3, I3)) ⟨⟨by dsimp only; omega, by dsimp only; rw [List.length_append, List.length_singleton]; omega⟩, by first | exact cutOk_end hk (by omega) | exact cutOk_sep hk (by omega) (u8_eq (by omega)), hO3⟩ (by dsimp only; omega)) ⟨rfl, rfl, rfl, rfl, lookI rfl (by dsimp only; omega), lookI rfl (by dsimp only; omega), trivial⟩ HS.last
              | exact GE_to (ih (i + 1, fr, out, y) ⟨⟨by dsimp only; omega, hom⟩, cutOk_no hk (by omega) (fun q => by rw [← q] at q4; exact q4 rfl), hO⟩ (by dsimp only; omega)) ⟨rfl, rfl, rfl, rfl, rfl, lookI rfl (by dsimp only; omega), trivial⟩ HS.last
          · skip
            refine GE_skip ?_
            refine GE_inBlock ?_
            refine GE_slots (L' := [(0, _), (1, _), (2, _), (7, _), (8, _), (9, _), (15, _), (16, _), (17, _), (18, _), (27, _), (28, _), (29, _), (30, _), (31, _)]) ⟨rfl, rfl, rfl, rfl, rfl, rfl, rfl, rfl, rfl, rfl, rfl, rfl, rfl, rfl, rfl, trivial⟩ ?_
            refine GE_plain (.st 0 (.st 1 (.ld 2 [] .nil))) rfl ?_
            refine GT_st rfl rfl rfl rfl (V_move rfl rfl) ?_
            refine GT_st rfl rfl rfl rfl (V_add rfl rfl rfl (wrap_i64 (by omega))) ?_
            refine GT_ldv rfl rfl rfl rfl rfl (V_assign rfl rfl) (GR_nil) ?_
            refine GT_nil ?_
            first
              | exact GE_to (ih (i + 1, i + 1, out ++ [(s.drop fr).take (i - fr)], (A3, c3, I3)) ⟨⟨by dsimp only; omega, by dsimp only; rw [List.length_append, List.length_singleton]; omega⟩, by first | exact cutOk_end hk (by omega) | exact cutOk_sep hk (by omega) (u8_eq (by omega)), hO3⟩ (by dsimp only; omega)) ⟨rfl, rfl, rfl, rfl, lookI rfl (by dsimp only; omega), lookI rfl (by dsimp only; omega), trivial⟩ HS.last
              | exact GE_to (ih (i + 1, fr, out, y) ⟨⟨by dsimp only; omega, hom⟩, cutOk_no hk (by omega) (fun q => by rw [← q] at q4; exact q4 rfl), hO⟩ (by dsimp only; omega)) ⟨rfl, rfl, rfl, rfl, rfl, lookI rfl (by dsimp only; omega), trivial⟩ HS.last
      · have eo := cutOk_out (m := m) hk (.inr (by omega)) hom
        refine GE_exit rfl ?_
        refine GE_seq ?_
        refine GE_slots (L' := [(7, _)]) ⟨rfl, trivial⟩ ?_
        refine GE_plain (.st 0 (.st 1 .nil)) rfl ?_
        refine GT_st rfl rfl rfl rfl (V_move rfl rfl) ?_
        refine GT_st rfl rfl rfl rfl (V_assign rfl rfl) ?_
        refine GT_nil ?_
        refine GE_ret Tryz.func31 rfl (fun w hw => ?_)
        rw [← eo]; exact ⟨y, hO, rfl, hw⟩
    · have eo := cutOk_out (m := m) hk (.inl (by omega)) hom
      refine GT_skip rfl rfl rfl rfl rfl (by decide) rfl rfl ?_
      refine GT_skip rfl rfl rfl rfl rfl (by decide) rfl rfl ?_
      refine GT_skip rfl rfl rfl rfl rfl (by decide) rfl rfl ?_
      refine GT_skip rfl rfl rfl rfl rfl (by decide) rfl rfl ?_
      refine GT_st rfl rfl rfl rfl (V_pick_f rfl rfl rfl) ?_
      refine GT_nil ?_
      refine GE_cond_f rfl ?_
      refine GE_exit rfl ?_
      refine GE_seq ?_
      refine GE_slots (L' := [(7, _)]) ⟨rfl, trivial⟩ ?_
      refine GE_plain (.st 0 (.st 1 .nil)) rfl ?_
      refine GT_st rfl rfl rfl rfl (V_move rfl rfl) ?_
      refine GT_st rfl rfl rfl rfl (V_assign rfl rfl) ?_
      refine GT_nil ?_
      refine GE_ret Tryz.func31 rfl (fun w hw => ?_)
      rw [← eo]; exact ⟨y, hO, rfl, hw⟩
  · exact ⟨⟨Nat.zero_le _, Nat.zero_le _⟩, cutOk_0 c s, Own.nil⟩
end
end Go.Proofs.YtdcjgjopmicidaaGreatDoor
