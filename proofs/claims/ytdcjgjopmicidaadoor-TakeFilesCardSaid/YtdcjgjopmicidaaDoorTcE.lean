/- The take of a file: the program's helpers, walked. -/
import Derived.Test.YtdcjgjopmicidaaDoorTcB
namespace Go.Proofs.YtdcjgjopmicidaaDoor
open Go.Sx Go.Proofs Go.RowKit

section
variable {w w0 : World} {b4 b5 : Nat} {H1 : Items} {A : Option Addr} {c : Nat} {r : List UInt8}
structure TkRes (w0 : World) (r : List UInt8) (n : Nat) (y : (Option Addr × Nat × Items) × (Option Addr × Nat)) : Prop where
  rd : ∀ w, SH w0 none' y.1.2.2 w → RdL w 1 eU y.1.1 (tk1 r n).1
  some : 0 < n → y.1.1.isSome = true
  rest : RdL w0 1 eU y.2.1 (tk1 r n).2
  cap : (tk1 r n).2.length ≤ y.2.2
theorem C_take {n : Nat} (m : SH w0 none' ((b4, blk [.slice A r.length c] 25) :: H1) w) (hr : RdL w0 1 eU A r) (hc : r.length ≤ c) (hn : n ≤ 1000) (hl : r.length ≤ 1000000) :
    Ret Tryd.prog 20 [I n, ptr b4 0].toArray w fun v w' => ∃ y : (Option Addr × Nat × Items) × (Option Addr × Nat), TkRes w0 r n y ∧ v = .slice y.1.1 (tk1 r n).1.length y.1.2.1 ∧
      SH w0 none' ((b4, blk [.slice y.2.1 (tk1 r n).2.length y.2.2] 25) :: (y.1.2.2 ++ H1)) w' := by
  refine Ret_ofH (vs := [_, _]) hm none' Tryd.func20 rfl Tryd.ntmps20 rfl m ?_
  dsimp only [slotsOf]
  refine GE_seq ?_
  refine GE_plain (.st 0 .nil) rfl ?_
  refine GT_st rfl rfl rfl rfl (V_assign rfl rfl) ?_
  refine GT_nil ?_
  refine GE_seq ?_
  refine GE_seq ?_
  refine GE_plain (.st 0 (.st 1 (.st 2 (.st 3 .nil)))) rfl ?_
  refine GT_st rfl rfl rfl rfl (V_move rfl rfl) ?_
  refine GT_st rfl rfl rfl rfl (V_load rfl rfl ag_25 (CellAt.item rfl)) ?_
  refine GT_st rfl rfl rfl rfl (V_len rfl Tryd.underlying25 rfl) ?_
  refine GT_st rfl rfl rfl rfl (V_gtr rfl rfl rfl) ?_
  refine GT_nil ?_
  first | refine GE_condNot rfl (fun h1 => ?_) (fun h1 => ?_) | refine GE_cond rfl (fun h1 => ?_) (fun h1 => ?_) | refine GE_condNotB rfl (fun h1 => ?_) (fun h1 => ?_) | refine GE_condB rfl (fun h1 => ?_) (fun h1 => ?_)
  · have eT : tk1 r n = (List.replicate n 0, []) := if_pos (by omega)
    refine GE_seq ?_
    refine GE_slots (L' := [(0, _), (1, _)]) ⟨rfl, rfl, trivial⟩ ?_
    refine GE_plain (.ld 0 [] .nil) rfl ?_
    refine GT_store (vs := [_]) (l' := [_]) rfl rfl rfl rfl rfl rfl rfl sz_25 rfl rfl (Nat.le_of_ble_eq_true rfl) rfl (GR_nil) ?_
    refine GT_nil ?_
    refine GE_seq ?_
    refine GE_plain (.st 0 (.ld 1 [] (.st 2 .nil))) rfl ?_
    refine GT_st rfl rfl rfl rfl (V_move rfl rfl) ?_
    refine GT_makeSlice rfl rfl rfl rfl rfl rfl rfl Tryd.underlying25 zc_5 sz_5 by_5 (nn := n) ⟨rfl, rfl, rfl⟩ ⟨by omega, by omega⟩ (fun _ => GR_nil) (fun b10 => ?_)
    refine GT_st rfl rfl rfl rfl (V_assign rfl rfl) ?_
    refine GT_nil ?_
    refine GE_ret Tryd.func20 rfl (fun w hw => ?_)
    rw [eT]; exact ⟨((some ⟨b10, 0, none⟩, n, [(b10, blk ((List.replicate n [.int .u8 0]).flatten) 5)]), (none, 0)), ⟨by rw [eT]; exact fun w m => (Own.made (e := 5) (x := (0 : UInt8)) rfl (by unfold maxLen; omega)).rd eU_len m, fun _ => rfl, by rw [eT]; exact RdL.nil, by rw [eT]; exact Nat.le_refl _⟩, by dsimp only; rw [List.length_replicate], hw.hs (C := cx Tryd.prog hm 0 0 w0 none' fun _ _ => True) (HS.cons rfl (HS.cons rfl HS.all))⟩
  · have eT : tk1 r n = (r.take n, r.drop n) := if_neg (by omega)
    refine GE_skip ?_
    refine GE_seq ?_
    refine GE_slots (L' := [(0, _), (1, _)]) ⟨rfl, rfl, trivial⟩ ?_
    refine GE_plain (.st 0 (.st 1 (.st 2 (.st 3 .nil)))) rfl ?_
    refine GT_st rfl rfl rfl rfl (V_load rfl rfl ag_25 (CellAt.item rfl)) ?_
    refine GT_st rfl rfl rfl rfl (V_move rfl rfl) ?_
    refine GT_st rfl rfl rfl rfl (V_sliceTo rfl rfl rfl Tryd.underlying25 (by rw [sz_5]; rfl) (by omega)) ?_
    refine GT_st rfl rfl rfl rfl (V_assign rfl rfl) ?_
    refine GT_nil ?_
    refine GE_seq ?_
    refine GE_plain (.st 0 (.st 1 (.st 2 (.ld 3 [] .nil)))) rfl ?_
    refine GT_st rfl rfl rfl rfl (V_load rfl rfl ag_25 (CellAt.item rfl)) ?_
    refine GT_st rfl rfl rfl rfl (V_move rfl rfl) ?_
    refine GT_st rfl rfl rfl rfl (V_sliceFrom rfl rfl rfl Tryd.underlying25 sz_5 (by omega)) ?_
    refine GT_store (vs := [_]) (l' := [_]) rfl rfl rfl rfl rfl rfl rfl sz_25 rfl rfl (Nat.le_of_ble_eq_true rfl) rfl (GR_nil) ?_
    refine GT_nil ?_
    refine GE_seq ?_
    refine GE_slots (L' := [(4, _)]) ⟨rfl, trivial⟩ ?_
    refine GE_plain (.st 0 (.st 1 .nil)) rfl ?_
    refine GT_st rfl rfl rfl rfl (V_move rfl rfl) ?_
    refine GT_st rfl rfl rfl rfl (V_assign rfl rfl) ?_
    refine GT_nil ?_
    refine GE_ret Tryd.func20 rfl (fun w hw => ?_)
    rw [eT]; have e1 : (r.take n).length = n := (by rw [List.length_take]; omega); have e2 : (r.drop n).length = r.length - n := List.length_drop; exact ⟨((A, c, []), (slA c n 1 A, c - n)), ⟨by rw [eT]; exact fun w m => (hr.take n).sh m, fun h0 => hr.isSome (k := 0) (by omega), by rw [eT]; exact hr.drop n hc, by rw [eT]; dsimp only; omega⟩, by dsimp only; rw [e1], by dsimp only; rw [e2]; exact hw⟩
theorem C_tw (m : SH w0 none' ((b5, blk [.func (.func 20) #[] #[ptr b4 0]] 59) :: (b4, blk [.slice A r.length c] 25) :: H1) w) (hr : RdL w0 1 eU A r) (hc : r.length ≤ c) (hl : r.length ≤ 1000000) :
    Ret Tryd.prog 21 [ptr b5 0].toArray w fun v w' => ∃ y : Option Addr × Nat, (RdL w0 1 eU y.1 (tr r) ∧ (tr r).length ≤ y.2) ∧ v = I (tw r) ∧
      SH w0 none' ((b5, blk [.func (.func 20) #[] #[ptr b4 0]] 59) :: (b4, blk [.slice y.1 (tr r).length y.2] 25) :: H1) w' := by
  have h0 := ((tk1 r 2).1.getD 0 default).toNat_lt
  have h1 := ((tk1 r 2).1.getD 1 default).toNat_lt
  have hl2 := tk1_len r 2
  refine Ret_ofH (vs := [_]) hm none' Tryd.func21 rfl Tryd.ntmps21 rfl m ?_
  dsimp only [slotsOf]
  refine GE_seq ?_
  refine GE_plain (.st 0 .nil) rfl ?_
  refine GT_st rfl rfl rfl rfl (V_assign rfl rfl) ?_
  refine GT_nil ?_
  refine GE_seq ?_
  refine GE_plain (.st 0 (.ld 1 [] (.st 2 .nil))) rfl ?_
  refine GT_st rfl rfl rfl rfl (V_load rfl rfl ag_59 (CellAt.item rfl)) ?_
  refine GT_callX rfl rfl rfl rfl rfl rfl rfl rfl rn_20 (fun w m => C_take (n := 2) (m.hs (HS.cons rfl HS.all)) hr hc (by decide) hl) (fun _ _ => GR_nil) (fun y hy => ?_)
  refine GT_st rfl rfl rfl rfl (V_assign rfl rfl) ?_
  refine GT_nil ?_
  refine GE_seq ?_
  refine GE_slots (L' := [(2, _)]) ⟨rfl, trivial⟩ ?_
  refine GE_drawn (.st 0 (.st 1 (.st 2 (.st 3 (.st 4 (.st 5 (.st 6 (.st 7 (.st 8 (.st 9 (.st 10 .nil))))))))))) [] (by decide +kernel) ?_
  refine GT_st rfl rfl rfl rfl (V_move rfl rfl) ?_
  refine GT_st rfl rfl rfl rfl (V_index (k := 0) rfl rfl rfl Tryd.underlying25 sz_5 rfl (by rw [hl2]; decide) (hy.some (by decide))) ?_
  refine GT_st rfl rfl rfl rfl (V_load rfl rfl ag_5 (CellAt.rdH0 (fun w m => hy.rd w (m.hs HS.last)) (by rw [hl2]; decide) rfl)) ?_
  refine GT_st rfl rfl rfl rfl (V_convII rfl rfl (by rw [Tryd.underlying5]; rfl) Tryd.underlying2 (wrap_i64 (by omega))) ?_
  refine GT_st rfl rfl rfl rfl (V_shl (s := 8) rfl rfl rfl (by decide) ((wrap_i64 (by omega)).trans (show _ = ((256 * ((tk1 r 2).1.getD 0 default).toNat : Nat) : Int) by omega))) ?_
  refine GT_st rfl rfl rfl rfl (V_move rfl rfl) ?_
  refine GT_st rfl rfl rfl rfl (V_index (k := 1) rfl rfl rfl Tryd.underlying25 sz_5 rfl (by rw [hl2]; decide) (hy.some (by decide))) ?_
  refine GT_st rfl rfl rfl rfl (V_load rfl rfl ag_5 (CellAt.rdH0 (fun w m => hy.rd w (m.hs HS.last)) (by rw [hl2]; decide) rfl)) ?_
  refine GT_st rfl rfl rfl rfl (V_convII rfl rfl (by rw [Tryd.underlying5]; rfl) Tryd.underlying2 (wrap_i64 (by omega))) ?_
  refine GT_st rfl rfl rfl rfl (V_or8 (p := ((tk1 r 2).1.getD 0 default).toNat) (q := ((tk1 r 2).1.getD 1 default).toNat) rfl rfl rfl rfl rfl ⟨h0, h1⟩ rfl) ?_
  refine GT_st rfl rfl rfl rfl (V_assign rfl rfl) ?_
  refine GT_nil ?_
  refine GE_ret Tryd.func21 rfl (fun w hw => ?_)
  exact ⟨y.2, ⟨hy.rest, hy.cap⟩, rfl, hw.hs (C := cx Tryd.prog hm 0 0 w0 none' fun _ _ => True) (HS.cons rfl (HS.cons (by rfl) HS.last))⟩
end
end Go.Proofs.YtdcjgjopmicidaaDoor
