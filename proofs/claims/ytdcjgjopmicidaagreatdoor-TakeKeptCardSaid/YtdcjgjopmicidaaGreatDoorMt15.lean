/- Texts of this proof, one behind the other: TdB, TdC. -/
import Derived.Test.YtdcjgjopmicidaaGreatDoorMt14
import Derived.Test.YtdcjgjopmicidaaGreatDoorMt8
import Derived.Lib.ItoaMem
import Derived.Lib.ItoaLen
/- The document's numerals, walked. -/
namespace Go.Proofs.YtdcjgjopmicidaaGreatDoor
open Go.Sx Go.Proofs Go.RowKit

theorem itoa_le (n : Int) (h : -1000000000000000 ≤ n ∧ n ≤ 1000000000000000) : (stz (Go.Lib.itoa n)).size ≤ 21 := by
  have := Go.Lib.itoa_length_le n (by omega) (by omega)
  rw [← byz_len, byz_stz]; exact this
theorem stz_app (l m : List UInt8) : stz l ++ stz m = stz (l ++ m) := by
  rw [← stz_byz (stz l ++ stz m)]
  congr 1
theorem itoa_minus {n : Int} (h : n < 0) : Go.Lib.itoa n = 45 :: Go.Lib.itoa (-n) := by
  rw [Go.Lib.itoa, if_pos h, Go.Lib.itoa, if_neg (by omega)]
  congr 2; omega
theorem itoa_big {n : Int} (h : 9 < n) : Go.Lib.itoa n = Go.Lib.itoa (n / 10) ++ Go.Lib.itoa (n % 10) := by
  rw [Go.Lib.itoa, if_neg (by omega), Go.Lib.itoa, if_neg (by omega), Go.Lib.itoa, if_neg (by omega), Go.Lib.decDigits, dif_neg (by omega), Go.Lib.decDigits_one (i := (n % 10).toNat) (by omega)]
  congr 2 <;> first | omega | (congr 2; omega)
end Go.Proofs.YtdcjgjopmicidaaGreatDoor
/- The document's Digits, walked. -/
namespace Go.Proofs.YtdcjgjopmicidaaGreatDoor
open Go.Sx Go.Proofs Go.RowKit

theorem dig_fin : ∀ i : Fin 10, (⟨#[48, 49, 50, 51, 52, 53, 54, 55, 56, 57]⟩ : ByteArray).extract i.val (i.val + 1) = stz [UInt8.ofNat (48 + i.val)] := by decide +kernel
set_option maxRecDepth 20000 in
theorem C_DigitsK : ∀ (k : Nat) (w : World) (n : Int), 2 * n.natAbs + (if n < 0 then 1 else 0) < k → -1000000000000000 ≤ n ∧ n ≤ 1000000000000000 → Con0 Tryz.prog 50 [I n] w (.string (stz (Go.Lib.itoa n)))
  | 0, _, _, h, _ => by omega
  | k + 1, w, n, h, hb => by
    have ih := C_DigitsK k
    have e1 : 9 < n → n.tdiv 10 = n / 10 := fun q => Int.tdiv_eq_ediv_of_nonneg (by omega)
    have e2 : 9 < n → n.tmod 10 = n % 10 := fun q => Int.tmod_eq_emod_of_nonneg (by omega)
    refine Ret_of (vs := [_]) hm none' Tryz.func50 rfl Tryz.ntmps50 rfl ?_
    dsimp only [slotsOf]
    refine GE_seq ?_
    refine GE_plain (.st 0 .nil) rfl ?_
    refine GT_st rfl rfl rfl rfl (V_assign rfl rfl) ?_
    refine GT_nil ?_
    refine GE_seq ?_
    refine GE_seq ?_
    refine GE_plain (.st 0 (.st 1 .nil)) rfl ?_
    refine GT_st rfl rfl rfl rfl (V_move rfl rfl) ?_
    refine GT_st rfl rfl rfl rfl (V_lss rfl rfl rfl) ?_
    refine GT_nil ?_
    first | refine GE_cond rfl (fun q1 => ?_) (fun q1 => ?_)
    · rw [if_pos q1] at h
      refine GE_seq ?_
      refine GE_plain (.st 0 (.st 1 (.ld 2 [] (.st 3 (.st 4 .nil))))) rfl ?_
      refine GT_st rfl rfl rfl rfl (V_move rfl rfl) ?_
      refine GT_st rfl rfl rfl rfl (V_neg rfl rfl ((wrap_i64 (by omega)).trans (show _ = -n by omega))) ?_
      refine GT_call0 rfl rfl rfl rfl rfl rfl rfl rfl rn_50 (fun w hw => ih _ (-n) (by rw [if_neg (by omega)]; omega) (by omega)) (GR_nil) ?_
      refine GT_st rfl rfl rfl rfl (V_addStr rfl rfl rfl (by have := itoa_le (-n) (by omega); show 1 + _ ≤ _; omega)) ?_
      refine GT_st rfl rfl rfl rfl (V_assign rfl rfl) ?_
      refine GT_nil ?_
      refine GE_ret Tryz.func50 rfl (fun w hw => ⟨?_, hw.nil⟩)
      refine congrArg Value.string ?_; rw [itoa_minus q1]; exact stz_app [45] _
    · rw [if_neg q1] at h
      refine GE_skip ?_
      refine GE_seq ?_
      refine GE_seq ?_
      refine GE_plain (.st 0 (.st 1 .nil)) rfl ?_
      refine GT_st rfl rfl rfl rfl (V_move rfl rfl) ?_
      refine GT_st rfl rfl rfl rfl (V_gtr rfl rfl rfl) ?_
      refine GT_nil ?_
      first | refine GE_cond rfl (fun q2 => ?_) (fun q2 => ?_)
      · have e3 := e1 q2; have e4 := e2 q2
        refine GE_seq ?_
        refine GE_slots (L' := [(0, _)]) ⟨rfl, trivial⟩ ?_
        refine GE_plain (.st 0 (.st 1 (.ld 2 [] (.st 3 (.st 4 (.ld 5 [] (.st 6 (.st 7 .nil)))))))) rfl ?_
        refine GT_st rfl rfl rfl rfl (V_move rfl rfl) ?_
        refine GT_st rfl rfl rfl rfl (V_quo rfl rfl rfl (by omega) (wrap_i64 (by omega))) ?_
        refine GT_call0 rfl rfl rfl rfl rfl rfl rfl rfl rn_50 (fun w hw => ih _ (n.tdiv 10) (by rw [e3, if_neg (by omega)]; omega) (by omega)) (GR_nil) ?_
        refine GT_st rfl rfl rfl rfl (V_move rfl rfl) ?_
        refine GT_st rfl rfl rfl rfl (V_rem rfl rfl rfl (by omega)) ?_
        refine GT_call0 rfl rfl rfl rfl rfl rfl rfl rfl rn_50 (fun w hw => ih _ (n.tmod 10) (by rw [e4, if_neg (by omega)]; omega) (by omega)) (GR_nil) ?_
        refine GT_st rfl rfl rfl rfl (V_addStr rfl rfl rfl (by have := itoa_le (n.tdiv 10) (by omega); have := itoa_le (n.tmod 10) (by omega); omega)) ?_
        refine GT_st rfl rfl rfl rfl (V_assign rfl rfl) ?_
        refine GT_nil ?_
        refine GE_ret Tryz.func50 rfl (fun w hw => ⟨?_, hw.nil⟩)
        refine congrArg Value.string ?_; rw [itoa_big q2, ← e3, ← e4]; exact stz_app _ _
      · skip
        refine GE_skip ?_
        refine GE_seq ?_
        refine GE_slots (L' := [(0, _)]) ⟨rfl, trivial⟩ ?_
        refine GE_plain (.st 0 (.st 1 (.st 2 (.st 3 (.st 4 .nil))))) rfl ?_
        refine GT_st rfl rfl rfl rfl (V_move rfl rfl) ?_
        refine GT_st rfl rfl rfl rfl (V_move rfl rfl) ?_
        refine GT_st rfl rfl rfl rfl (V_add rfl rfl rfl (wrap_i64 (by omega))) ?_
        refine GT_st rfl rfl rfl rfl (V_sliceStr (lo := n.toNat) (hi := n.toNat + 1) rfl rfl rfl rfl Tryz.underlying9 (by omega) (by omega) ⟨by omega, by show _ ≤ 10; omega⟩) ?_
        refine GT_st rfl rfl rfl rfl (V_assign rfl rfl) ?_
        refine GT_nil ?_
        refine GE_ret Tryz.func50 rfl (fun w hw => ⟨?_, hw.nil⟩)
        refine congrArg Value.string ?_; rw [Go.Lib.itoa, if_neg q1, Go.Lib.decDigits_one (by omega)]; exact dig_fin ⟨n.toNat, by omega⟩
end Go.Proofs.YtdcjgjopmicidaaGreatDoor
