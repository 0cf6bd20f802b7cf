/- The file of a take: the program's writing, walked. -/
import Derived.Test.YtdcjgjopmicidaaDoorTa7
import Derived.Test.YtdcjgjopmicidaaDoorTaK
import Derived.Test.YtdcjgjopmicidaaDoorSxM
namespace Go.Proofs.YtdcjgjopmicidaaDoor
open Go.Sx Go.Proofs Go.RowKit

section
variable {w w0 : World} {b : Nat} {H1 : Items} {v : Value} {q : Int × Int}
def fcells (q : Int × Int) (v : Value) : List Value := [.int .u32 q.1, .int .u32 q.2, v]
theorem C_add {a s : Int} {x : UInt8} (m : SH w0 none' ((b, blk [.int .u32 a, .int .u32 s, v] 53) :: H1) w) (h : csIn (a, s)) :
    Ret Tryd.prog 32 [ptr b 0, .int .u8 x.toNat].toArray w fun r w' => ∃ y : Int × Int, y = add1 (a, s) x ∧ r = .tuple #[] ∧ SH w0 none' ((b, blk [.int .u32 y.1, .int .u32 y.2, v] 53) :: H1) w' := by
  have hx := x.toNat_lt
  have h1 : (0 ≤ a ∧ a < 65521) ∧ (0 ≤ s ∧ s < 65521) := h
  have e1 : (a + (x.toNat : Int)).tmod 65521 = (a + x.toNat) % 65521 := Int.tmod_eq_emod_of_nonneg (by omega)
  have e2 : (s + (a + (x.toNat : Int)).tmod 65521).tmod 65521 = (s + (a + x.toNat) % 65521) % 65521 := by rw [e1]; exact Int.tmod_eq_emod_of_nonneg (by omega)
  refine Ret_ofH (vs := [_, _]) hm none' Tryd.func32 rfl Tryd.ntmps32 rfl m ?_
  dsimp only [slotsOf]
  refine GE_seq ?_
  refine GE_plain (.st 0 (.st 1 (.st 2 (.st 3 (.st 4 (.st 5 (.st 6 (.st 7 (.st 8 (.st 9 (.st 10 (.ld 11 [] .nil)))))))))))) rfl ?_
  refine GT_st rfl rfl rfl rfl (V_move rfl rfl) ?_
  refine GT_st rfl rfl rfl rfl (V_move rfl rfl) ?_
  first | refine GT_st rfl rfl rfl rfl (V_nilCheck rfl rfl) ?_ | refine GT_st rfl rfl rfl rfl (V_nilCheck_func rfl rfl) ?_ | refine GT_st rfl rfl rfl rfl (V_nilCheck_yield rfl rfl) ?_
  first | refine GT_st rfl rfl rfl rfl (V_field rfl rfl fo_51_0) ?_ | refine GT_st rfl rfl rfl rfl (V_fieldA rfl rfl fo_51_0) ?_
  refine GT_st rfl rfl rfl rfl (V_load rfl rfl ag_49 (CellAt.item rfl)) ?_
  refine GT_st rfl rfl rfl rfl (V_move rfl rfl) ?_
  refine GT_st rfl rfl rfl rfl (V_convII rfl rfl (by rw [Tryd.underlying5]; rfl) Tryd.underlying49 (wrap_u32 (by omega))) ?_
  refine GT_st rfl rfl rfl rfl (V_add rfl rfl rfl (wrap_u32 (by omega))) ?_
  refine GT_st rfl rfl rfl rfl (V_rem rfl rfl rfl (by omega)) ?_
  first | refine GT_st rfl rfl rfl rfl (V_nilCheck rfl rfl) ?_ | refine GT_st rfl rfl rfl rfl (V_nilCheck_func rfl rfl) ?_ | refine GT_st rfl rfl rfl rfl (V_nilCheck_yield rfl rfl) ?_
  first | refine GT_st rfl rfl rfl rfl (V_field rfl rfl fo_51_0) ?_ | refine GT_st rfl rfl rfl rfl (V_fieldA rfl rfl fo_51_0) ?_
  refine GT_store (vs := [_]) (l' := [_, _, _]) rfl rfl rfl rfl rfl rfl rfl sz_49 rfl rfl (Nat.le_of_ble_eq_true rfl) rfl (GR_nil) ?_
  refine GT_nil ?_
  refine GE_slots (L' := [(0, _)]) ⟨rfl, trivial⟩ ?_
  refine GE_drawn (.st 0 (.st 1 (.st 2 (.st 3 (.st 4 (.st 5 (.st 6 (.st 7 (.st 8 (.st 9 (.st 10 (.st 11 (.st 12 (.ld 13 [] .nil)))))))))))))) [13] (by decide +kernel) ?_
  refine GT_st rfl rfl rfl rfl (V_move rfl rfl) ?_
  refine GT_st rfl rfl rfl rfl (V_move rfl rfl) ?_
  first | refine GT_st rfl rfl rfl rfl (V_nilCheck rfl rfl) ?_ | refine GT_st rfl rfl rfl rfl (V_nilCheck_func rfl rfl) ?_ | refine GT_st rfl rfl rfl rfl (V_nilCheck_yield rfl rfl) ?_
  first | refine GT_st rfl rfl rfl rfl (V_field rfl rfl fo_51_1) ?_ | refine GT_st rfl rfl rfl rfl (V_fieldA rfl rfl fo_51_1) ?_
  refine GT_st rfl rfl rfl rfl (V_load rfl rfl ag_49 (CellAt.item rfl)) ?_
  refine GT_st rfl rfl rfl rfl (V_move rfl rfl) ?_
  first | refine GT_st rfl rfl rfl rfl (V_nilCheck rfl rfl) ?_ | refine GT_st rfl rfl rfl rfl (V_nilCheck_func rfl rfl) ?_ | refine GT_st rfl rfl rfl rfl (V_nilCheck_yield rfl rfl) ?_
  first | refine GT_st rfl rfl rfl rfl (V_field rfl rfl fo_51_0) ?_ | refine GT_st rfl rfl rfl rfl (V_fieldA rfl rfl fo_51_0) ?_
  refine GT_st rfl rfl rfl rfl (V_load rfl rfl ag_49 (CellAt.item rfl)) ?_
  refine GT_st rfl rfl rfl rfl (V_add rfl rfl rfl (wrap_u32 (by omega))) ?_
  refine GT_st rfl rfl rfl rfl (V_rem rfl rfl rfl (by omega)) ?_
  first | refine GT_st rfl rfl rfl rfl (V_nilCheck rfl rfl) ?_ | refine GT_st rfl rfl rfl rfl (V_nilCheck_func rfl rfl) ?_ | refine GT_st rfl rfl rfl rfl (V_nilCheck_yield rfl rfl) ?_
  first | refine GT_st rfl rfl rfl rfl (V_field rfl rfl fo_51_1) ?_ | refine GT_st rfl rfl rfl rfl (V_fieldA rfl rfl fo_51_1) ?_
  refine GT_store (vs := [_]) (l' := [_, _, _]) rfl rfl rfl rfl rfl rfl rfl sz_49 rfl rfl (Nat.le_of_ble_eq_true rfl) rfl (GR_nil) ?_
  refine GT_nil ?_
  refine GE_end Tryd.func32 rfl (fun w hw => ?_)
  exact ⟨((a + (x.toNat : Int)).tmod 65521, (s + (a + (x.toNat : Int)).tmod 65521).tmod 65521), by rw [e2, e1]; rfl, rfl, hw⟩
theorem adl_take {q : Int × Int} {l : List UInt8} {j : Nat} (h : j < l.length) : adl q (l.take (j + 1)) = add1 (adl q (l.take j)) (l.getD j default) := by
  have e : l.take (j + 1) = l.take j ++ [l.getD j default] := by
    rw [List.take_add_one, List.getD, List.getElem?_eq_getElem h]; rfl
  rw [e, adl_app]; rfl
theorem wrap_by8 (n : Int) : IntKind.u8.wrap n = ((by8 n).toNat : Int) := by
  rw [by8_nat]
  simp [IntKind.wrap, IntKind.bits, IntKind.signed]
variable {A A' : Option Addr} {c c' : Nat} {J1 : Items} {l bs : List UInt8}
theorem C_write (m : SH w0 none' ((b, blk [.int .u32 q.1, .int .u32 q.2, .slice A' bs.length c'] 53) :: (J1 ++ H1)) w) (hq : csIn q) (hO : Own 1 5 eU bs (.slice A' bs.length c') J1) (hl : ∀ w, SH w0 none' H1 w → RdL w 1 eU A l) (hn : bs.length + l.length ≤ 1000000) :
    Ret Tryd.prog 15 [ptr b 0, .slice A l.length c].toArray w fun r w' => ∃ y : Option Addr × Nat × Items, Own 1 5 eU (bs ++ l) (.slice y.1 (bs ++ l).length y.2.1) y.2.2 ∧ r = .tuple #[] ∧
      SH w0 none' ((b, blk [.int .u32 (adl q l).1, .int .u32 (adl q l).2, .slice y.1 (bs ++ l).length y.2.1] 53) :: (y.2.2 ++ H1)) w' := by
  have hA := hl w (m.hs (C := cx Tryd.prog hm 0 0 w0 none' fun _ _ => True) HS.last)
  refine Ret_ofH (vs := [_, _]) hm none' Tryd.func15 rfl Tryd.ntmps15 rfl m ?_
  dsimp only [slotsOf]
  refine GE_seq ?_
  refine GE_seq ?_
  refine GE_plain (.st 0 (.st 1 (.st 2 .nil))) rfl ?_
  refine GT_st rfl rfl rfl rfl (V_move rfl rfl) ?_
  refine GT_st rfl rfl rfl rfl (V_len rfl Tryd.underlying25 rfl) ?_
  refine GT_st rfl rfl rfl rfl (V_move rfl rfl) ?_
  refine GT_nil ?_
  refine GE_block ?_
  refine GE_to (GE_loop (ι := Nat) (fun j => l.length - j) (fun j => [(0, ptr b 0), (1, .slice A l.length c), (6, .slice A l.length c), (7, I l.length), (8, I j)]) (fun j => (b, blk [.int .u32 (adl q (l.take j)).1, .int .u32 (adl q (l.take j)).2, .slice A' bs.length c'] 53) :: (J1 ++ H1)) (fun j => j ≤ l.length) ?_ 0 ?_) ⟨rfl, rfl, rfl, rfl, rfl, trivial⟩ HS.all
  · intro j hj ih
    refine GE_seq ?_
    refine GE_plain (.st 0 .nil) rfl ?_
    refine GT_st rfl rfl rfl rfl (V_lss rfl rfl rfl) ?_
    refine GT_nil ?_
    refine GE_seq ?_
    first | refine GE_condNot rfl (fun h1 => ?_) (fun h1 => ?_) | refine GE_cond rfl (fun h1 => ?_) (fun h1 => ?_) | refine GE_condNotB rfl (fun h1 => ?_) (fun h1 => ?_) | refine GE_condB rfl (fun h1 => ?_) (fun h1 => ?_)
    · have hjl : j < l.length := (by omega)
      refine GE_skip ?_
      refine GE_seq ?_
      refine GE_block ?_
      refine GE_seq ?_
      refine GE_plain (.st 0 (.st 1 (.st 2 .nil))) rfl ?_
      refine GT_st rfl rfl rfl rfl (V_index rfl rfl rfl Tryd.underlying25 sz_5 (k := j) rfl hjl (hA.isSome hjl)) ?_
      refine GT_st rfl rfl rfl rfl (V_load rfl rfl ag_5 (CellAt.rdH0 (fun w m => hl w (m.hs HS.last)) hjl rfl)) ?_
      refine GT_st rfl rfl rfl rfl (V_assign rfl rfl) ?_
      refine GT_nil ?_
      refine GE_plain (.st 0 (.st 1 (.st 2 (.st 3 (.ld 4 [] .nil))))) rfl ?_
      refine GT_st rfl rfl rfl rfl (V_move rfl rfl) ?_
      first | refine GT_st rfl rfl rfl rfl (V_nilCheck rfl rfl) ?_ | refine GT_st rfl rfl rfl rfl (V_nilCheck_func rfl rfl) ?_ | refine GT_st rfl rfl rfl rfl (V_nilCheck_yield rfl rfl) ?_
      first | refine GT_st rfl rfl rfl rfl (V_field rfl rfl fo_53_0) ?_ | refine GT_st rfl rfl rfl rfl (V_fieldA rfl rfl fo_53_0) ?_
      refine GT_st rfl rfl rfl rfl (V_move rfl rfl) ?_
      refine GT_callX rfl rfl rfl rfl rfl rfl rfl rfl rn_32 (fun w m => C_add m (csIn_adl (c := q) (l := l.take j) hq)) (fun _ _ => GR_nil) (fun y16 hy16 => ?_)
      refine GT_nil ?_
      refine GE_inBlock ?_
      refine GE_slots (L' := [(0, _), (1, _), (6, _), (7, _), (8, _)]) ⟨rfl, rfl, rfl, rfl, rfl, trivial⟩ ?_
      refine GE_plain (.st 0 (.ld 1 [] .nil)) rfl ?_
      refine GT_st rfl rfl rfl rfl (V_add rfl rfl rfl (wrap_i64 (by omega))) ?_
      refine GT_ldv rfl rfl rfl rfl rfl (V_move rfl rfl) (GR_nil) ?_
      refine GT_nil ?_
      rw [← adl_take hjl] at hy16; subst hy16; exact GE_to (ih (j + 1) (by omega) (by omega)) ⟨rfl, rfl, rfl, rfl, rfl, trivial⟩ HS.all
    · skip
      refine GE_exit rfl ?_
      refine GE_slots (L' := [(0, _), (1, _)]) ⟨rfl, rfl, trivial⟩ ?_
      refine GE_plain (.st 0 (.st 1 (.st 2 (.st 3 (.st 4 (.st 5 (.ld 6 [] (.st 7 (.st 8 (.ld 9 [] .nil)))))))))) rfl ?_
      refine GT_st rfl rfl rfl rfl (V_move rfl rfl) ?_
      refine GT_st rfl rfl rfl rfl (V_move rfl rfl) ?_
      first | refine GT_st rfl rfl rfl rfl (V_nilCheck rfl rfl) ?_ | refine GT_st rfl rfl rfl rfl (V_nilCheck_func rfl rfl) ?_ | refine GT_st rfl rfl rfl rfl (V_nilCheck_yield rfl rfl) ?_
      first | refine GT_st rfl rfl rfl rfl (V_field rfl rfl fo_53_1) ?_ | refine GT_st rfl rfl rfl rfl (V_fieldA rfl rfl fo_53_1) ?_
      refine GT_st rfl rfl rfl rfl (V_load rfl rfl ag_25 (CellAt.item rfl)) ?_
      refine GT_st rfl rfl rfl rfl (V_move rfl rfl) ?_
      refine GT_append (enc := eU) (m := l) rfl rfl rfl rfl rfl rfl rfl hO (fun w m => hl w (m.hs HS.last)) Tryd.underlying25 zc_5 sz_5 ⟨rfl, by decide⟩ by_5 ⟨by omega, by omega⟩ eU_len eU_one (fun _ _ _ _ => GR_nil) (fun A2 c2 I2 hO2 => ?_)
      first | refine GT_st rfl rfl rfl rfl (V_nilCheck rfl rfl) ?_ | refine GT_st rfl rfl rfl rfl (V_nilCheck_func rfl rfl) ?_ | refine GT_st rfl rfl rfl rfl (V_nilCheck_yield rfl rfl) ?_
      first | refine GT_st rfl rfl rfl rfl (V_field rfl rfl fo_53_1) ?_ | refine GT_st rfl rfl rfl rfl (V_fieldA rfl rfl fo_53_1) ?_
      refine GT_store (vs := [_]) (l' := [_, _, _]) rfl rfl rfl rfl rfl rfl rfl sz_25 rfl rfl (Nat.le_of_ble_eq_true rfl) rfl (GR_nil) ?_
      refine GT_nil ?_
      refine GE_end Tryd.func15 rfl (fun w hw => ?_)
      exact ⟨(A2, c2, I2), hO2, rfl, by have e := List.take_of_length_le (l := l) (i := j) (by omega); rw [e] at hw; exact hw.hs (C := cx Tryd.prog hm 0 0 w0 none' fun _ _ => True) (HS.cons rfl (HS.chunk HS.last))⟩
  · exact Nat.zero_le _
end
end Go.Proofs.YtdcjgjopmicidaaDoor
