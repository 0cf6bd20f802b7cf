/- The take of a file: the document's Unpack, walked. -/
import Derived.Test.YtdcjgjopmicidaaDoorTcD
import Derived.Test.YtdcjgjopmicidaaDoorSxN
namespace Go.Proofs.YtdcjgjopmicidaaDoor
open Go.Sx Go.Proofs Go.RowKit

section
variable {w : World} {A : Option Addr} {c : Nat} {b : List UInt8}
theorem C_get {i : Nat} (h : RdL w 1 eU A b) (hn : b.length ≤ 1000000) (hi : i ≤ 1000000) : Con0 Tryd.prog 22 [.slice A b.length c, I i] w (I (get2 b i)) := by
  have h0 := (b.getD i default).toNat_lt
  have h1 := (b.getD (i + 1) default).toNat_lt
  refine Ret_of (vs := [_, _]) hm none' Tryd.func22 rfl Tryd.ntmps22 rfl ?_
  dsimp only [slotsOf]
  refine GE_seq ?_
  refine GE_plain (.st 0 .nil) rfl ?_
  refine GT_st rfl rfl rfl rfl (V_assign rfl rfl) ?_
  refine GT_nil ?_
  refine GE_seq ?_
  refine GE_seq ?_
  refine GE_plain (.st 0 (.st 1 (.st 2 (.st 3 (.st 4 .nil))))) rfl ?_
  refine GT_st rfl rfl rfl rfl (V_move rfl rfl) ?_
  refine GT_st rfl rfl rfl rfl (V_add rfl rfl rfl (wrap_i64 (by omega))) ?_
  refine GT_st rfl rfl rfl rfl (V_move rfl rfl) ?_
  refine GT_st rfl rfl rfl rfl (V_len rfl Tryd.underlying25 rfl) ?_
  refine GT_st rfl rfl rfl rfl (V_geq rfl rfl rfl) ?_
  refine GT_nil ?_
  first | refine GE_condNot rfl (fun q1 => ?_) (fun q1 => ?_) | refine GE_cond rfl (fun q1 => ?_) (fun q1 => ?_) | refine GE_condNotB rfl (fun q1 => ?_) (fun q1 => ?_) | refine GE_condB rfl (fun q1 => ?_) (fun q1 => ?_)
  · skip
    refine GE_seq ?_
    refine GE_slots (L' := []) trivial ?_
    refine GE_plain (.st 0 .nil) rfl ?_
    refine GT_st rfl rfl rfl rfl (V_assign rfl rfl) ?_
    refine GT_nil ?_
    refine GE_ret Tryd.func22 rfl (fun w hw => ⟨?_, hw.nil⟩)
    rw [get2, if_neg (by omega)]
  · skip
    refine GE_skip ?_
    refine GE_seq ?_
    refine GE_slots (L' := [(0, _), (1, _)]) ⟨rfl, rfl, trivial⟩ ?_
    refine GE_drawn (.st 0 (.st 1 (.st 2 (.st 3 (.st 4 (.st 5 (.st 6 (.st 7 (.st 8 (.st 9 (.st 10 (.st 11 (.st 12 (.st 13 .nil)))))))))))))) [] (by decide +kernel) ?_
    refine GT_st rfl rfl rfl rfl (V_move rfl rfl) ?_
    refine GT_st rfl rfl rfl rfl (V_move rfl rfl) ?_
    refine GT_st rfl rfl rfl rfl (V_index rfl rfl rfl Tryd.underlying25 sz_5 (k := i) rfl (by omega) (h.isSome (k := i) (by omega))) ?_
    refine GT_st rfl rfl rfl rfl (V_load rfl rfl ag_5 (h.at0 noM (k := i) (by omega) rfl)) ?_
    refine GT_st rfl rfl rfl rfl (V_convII rfl rfl (by rw [Tryd.underlying5]; rfl) Tryd.underlying2 (wrap_i64 (by omega))) ?_
    refine GT_st rfl rfl rfl rfl (V_mul rfl rfl rfl (wrap_i64 (by omega))) ?_
    refine GT_st rfl rfl rfl rfl (V_move rfl rfl) ?_
    refine GT_st rfl rfl rfl rfl (V_move rfl rfl) ?_
    refine GT_st rfl rfl rfl rfl (V_add rfl rfl rfl (wrap_i64 (by omega))) ?_
    refine GT_st rfl rfl rfl rfl (V_index rfl rfl rfl Tryd.underlying25 sz_5 (k := i + 1) (by omega) (by omega) (h.isSome (k := i + 1) (by omega))) ?_
    refine GT_st rfl rfl rfl rfl (V_load rfl rfl ag_5 (h.at0 noM (k := i + 1) (by omega) rfl)) ?_
    refine GT_st rfl rfl rfl rfl (V_convII rfl rfl (by rw [Tryd.underlying5]; rfl) Tryd.underlying2 (wrap_i64 (by omega))) ?_
    refine GT_st rfl rfl rfl rfl (V_add rfl rfl rfl (wrap_i64 (by omega))) ?_
    refine GT_st rfl rfl rfl rfl (V_assign rfl rfl) ?_
    refine GT_nil ?_
    refine GE_ret Tryd.func22 rfl (fun w hw => ⟨?_, hw.nil⟩)
    rw [get2, if_pos (by omega)]; rfl
def kN (b : List UInt8) : Nat := (b.getD 2 default).toNat
def smA (b : List UInt8) (i : Nat) : Sam := ⟨get2 b (3 + kN b + 2 + 4 * i) - 32768, get2 b (3 + kN b + 4 + 4 * i) - 32768⟩
theorem par2_eq (b : List UInt8) : par2 b = (stz ((b.drop 3).take (kN b)), (List.range (min (get2 b (3 + kN b)).toNat 5000)).map (smA b)) := rfl
theorem smA_wf (b : List UInt8) (n : Nat) : ∀ s ∈ (List.range n).map (smA b), s.wf := by
  intro s hs
  obtain ⟨i, _, rfl⟩ := List.mem_map.1 hs
  have h1 := get2_bd b (3 + kN b + 2 + 4 * i)
  have h2 := get2_bd b (3 + kN b + 4 + 4 * i)
  unfold smA Sam.wf I64; dsimp only; omega
set_option maxRecDepth 20000 in
set_option maxHeartbeats 2000000 in
theorem C_rUnpack (h : RdL w 1 eU A b) (hc : b.length ≤ c) : Con Tryd.prog 9 [.slice A b.length c] w (fun y : Option Addr × Nat × Items => Own 2 45 eSam (un2 b).1.2 (.slice y.1 (un2 b).1.2.length y.2.1) y.2.2)
    (fun y => .tuple #[.agg #[.string (un2 b).1.1, .slice y.1 (un2 b).1.2.length y.2.1], I (un2 b).2]) (fun y => y.2.2) := by
  have hx : kN b < 256 := (b.getD 2 default).toNat_lt
  have ekN : (b.getD 2 default).toNat = kN b := rfl
  have hN := get2_bd b (3 + kN b)
  refine Ret_of (vs := [_]) hm none' Tryd.func9 rfl Tryd.ntmps9 rfl ?_
  dsimp only [slotsOf]
  refine GE_seq ?_
  refine GE_plain (.ld 0 [] (.st 1 .nil)) rfl ?_
  refine GT_alloc rfl rfl rfl rfl rfl zc_24 (fun _ => GR_nil) (fun b2 => ?_)
  refine GT_st rfl rfl rfl rfl (V_assign rfl rfl) ?_
  refine GT_nil ?_
  refine GE_seq ?_
  refine GE_seq ?_
  refine GE_plain (.st 0 (.st 1 (.st 2 .nil))) rfl ?_
  refine GT_st rfl rfl rfl rfl (V_move rfl rfl) ?_
  refine GT_st rfl rfl rfl rfl (V_len rfl Tryd.underlying25 rfl) ?_
  refine GT_st rfl rfl rfl rfl (V_gtr rfl rfl rfl) ?_
  refine GT_nil ?_
  first | refine GE_condNot rfl (fun h1 => ?_) (fun h1 => ?_) | refine GE_cond rfl (fun h1 => ?_) (fun h1 => ?_) | refine GE_condNotB rfl (fun h1 => ?_) (fun h1 => ?_) | refine GE_condB rfl (fun h1 => ?_) (fun h1 => ?_)
  · skip
    refine GE_seq ?_
    refine GE_slots (L' := [(2, _)]) ⟨rfl, trivial⟩ ?_
    refine GE_plain (.st 0 (.ld 1 [] (.st 2 .nil))) rfl ?_
    refine GT_st rfl rfl rfl rfl (V_build (vs := [_, _]) rfl rfl zc_24 pl_24 sa_24 rfl) ?_
    refine GT_store (vs := [_, _]) (l' := [_, _]) rfl rfl rfl rfl rfl rfl rfl sz_24 rfl rfl (Nat.le_of_ble_eq_true rfl) rfl (GR_nil) ?_
    refine GT_st rfl rfl rfl rfl (V_assign rfl rfl) ?_
    refine GT_nil ?_
    refine GE_ret Tryd.func9 ⟨_, _, ⟨_, rfl, fun w m => run_loadVar_agg (vs := [_, _]) ag_24 sz_24 rfl (fun j v hj => CellsAt.item rfl j v hj w m)⟩, rfl, rfl⟩ (fun w hw => ?_)
    have e : un2 b = (td0, 7) := if_pos (by omega); exact ⟨(none, 0, []), by rw [e]; exact Own.nil, by rw [e] <;> rfl, hw.nil⟩
  · skip
    refine GE_skip ?_
    refine GE_seq ?_
    refine GE_seq ?_
    refine GE_slots (L' := [(0, _), (2, _)]) ⟨rfl, rfl, trivial⟩ ?_
    refine GE_plain (.st 0 (.st 1 (.st 2 (.st 3 (.st 4 (.st 5 (.st 6 (.st 7 (.st 8 (.st 9 (.st 10 (.st 11 (.st 12 .nil))))))))))))) rfl ?_
    refine GT_st rfl rfl rfl rfl (V_move rfl rfl) ?_
    refine GT_st rfl rfl rfl rfl (V_len rfl Tryd.underlying25 rfl) ?_
    refine GT_st rfl rfl rfl rfl (V_lss rfl rfl rfl) ?_
    refine GT_st rfl rfl rfl rfl (V_move rfl rfl) ?_
    first | refine GT_splitNot (d := 17) rfl (fun q1 => ?_) (fun q1 => ?_) | refine GT_split (d := 17) rfl (fun q1 => ?_) (fun q1 => ?_) | refine GT_splitNotB (d := 17) rfl (fun q1 => ?_) (fun q1 => ?_) | refine GT_splitB (d := 17) rfl (fun q1 => ?_) (fun q1 => ?_)
    · skip
      refine GT_skip rfl rfl rfl rfl rfl (by decide) rfl rfl ?_
      refine GT_skip rfl rfl rfl rfl rfl (by decide) rfl rfl ?_
      refine GT_skip rfl rfl rfl rfl rfl (by decide) rfl rfl ?_
      refine GT_skip rfl rfl rfl rfl rfl (by decide) rfl rfl ?_
      refine GT_skip rfl rfl rfl rfl rfl (by decide) rfl rfl ?_
      refine GT_skip rfl rfl rfl rfl rfl (by decide) rfl rfl ?_
      refine GT_skip rfl rfl rfl rfl rfl (by decide) rfl rfl ?_
      refine GT_skip rfl rfl rfl rfl rfl (by decide) rfl rfl ?_
      refine GT_st rfl rfl rfl rfl (V_pick_t rfl rfl rfl) ?_
      refine GT_nil ?_
      refine GE_cond_t rfl ?_
      refine GE_seq ?_
      refine GE_slots (L' := [(2, _)]) ⟨rfl, trivial⟩ ?_
      refine GE_plain (.st 0 (.ld 1 [] (.st 2 .nil))) rfl ?_
      refine GT_st rfl rfl rfl rfl (V_build (vs := [_, _]) rfl rfl zc_24 pl_24 sa_24 rfl) ?_
      refine GT_store (vs := [_, _]) (l' := [_, _]) rfl rfl rfl rfl rfl rfl rfl sz_24 rfl rfl (Nat.le_of_ble_eq_true rfl) rfl (GR_nil) ?_
      refine GT_st rfl rfl rfl rfl (V_assign rfl rfl) ?_
      refine GT_nil ?_
      refine GE_ret Tryd.func9 ⟨_, _, ⟨_, rfl, fun w m => run_loadVar_agg (vs := [_, _]) ag_24 sz_24 rfl (fun j v hj => CellsAt.item rfl j v hj w m)⟩, rfl, rfl⟩ (fun w hw => ?_)
      have e : un2 b = (td0, 8) := (by rw [un2, if_neg (by omega), if_pos (by rw [ekN]; omega)]); exact ⟨(none, 0, []), by rw [e]; exact Own.nil, by rw [e] <;> rfl, hw.nil⟩
    · skip
      refine GT_st_g rfl rfl rfl rfl rfl rfl rfl (V_move rfl rfl) ?_
      refine GT_st_g rfl rfl rfl rfl rfl rfl rfl (V_index (k := 2) rfl rfl rfl Tryd.underlying25 sz_5 rfl (by omega) (h.isSome (k := 2) (by omega))) ?_
      refine GT_st_g rfl rfl rfl rfl rfl rfl rfl (V_load rfl rfl ag_5 (h.at0 noM (k := 2) (by omega) rfl)) ?_
      refine GT_st_g rfl rfl rfl rfl rfl rfl rfl (V_convII rfl rfl (by rw [Tryd.underlying5]; rfl) Tryd.underlying3 ((wrap_i64 (by omega)).trans (show _ = ((kN b : Nat) : Int) from rfl))) ?_
      refine GT_st_g rfl rfl rfl rfl rfl rfl rfl (V_add rfl rfl rfl (wrap_i64 (by omega))) ?_
      refine GT_st_g rfl rfl rfl rfl rfl rfl rfl (V_move rfl rfl) ?_
      refine GT_st_g rfl rfl rfl rfl rfl rfl rfl (V_len rfl Tryd.underlying25 rfl) ?_
      refine GT_st_g rfl rfl rfl rfl rfl rfl rfl (V_gtr rfl rfl rfl) ?_
      refine GT_st rfl rfl rfl rfl (V_pick_f rfl rfl rfl) ?_
      refine GT_nil ?_
      first | refine GE_condNot rfl (fun q2 => ?_) (fun q2 => ?_) | refine GE_cond rfl (fun q2 => ?_) (fun q2 => ?_) | refine GE_condNotB rfl (fun q2 => ?_) (fun q2 => ?_) | refine GE_condB rfl (fun q2 => ?_) (fun q2 => ?_)
      · skip
        refine GE_seq ?_
        refine GE_slots (L' := [(2, _)]) ⟨rfl, trivial⟩ ?_
        refine GE_plain (.st 0 (.ld 1 [] (.st 2 .nil))) rfl ?_
        refine GT_st rfl rfl rfl rfl (V_build (vs := [_, _]) rfl rfl zc_24 pl_24 sa_24 rfl) ?_
        refine GT_store (vs := [_, _]) (l' := [_, _]) rfl rfl rfl rfl rfl rfl rfl sz_24 rfl rfl (Nat.le_of_ble_eq_true rfl) rfl (GR_nil) ?_
        refine GT_st rfl rfl rfl rfl (V_assign rfl rfl) ?_
        refine GT_nil ?_
        refine GE_ret Tryd.func9 ⟨_, _, ⟨_, rfl, fun w m => run_loadVar_agg (vs := [_, _]) ag_24 sz_24 rfl (fun j v hj => CellsAt.item rfl j v hj w m)⟩, rfl, rfl⟩ (fun w hw => ?_)
        have e : un2 b = (td0, 8) := (by rw [un2, if_neg (by omega), if_pos (by rw [ekN]; omega)]); exact ⟨(none, 0, []), by rw [e]; exact Own.nil, by rw [e] <;> rfl, hw.nil⟩
      · have eU2 : un2 b = unp (par2 b) b := (by rw [un2, if_neg (by omega), if_neg (by rw [ekN]; omega)])
        refine GE_skip ?_
        refine GE_seq ?_
        refine GE_slots (L' := [(0, _), (2, _)]) ⟨rfl, rfl, trivial⟩ ?_
        refine GE_plain (.st 0 (.st 1 (.st 2 (.st 3 (.st 4 (.st 5 .nil)))))) rfl ?_
        refine GT_st rfl rfl rfl rfl (V_move rfl rfl) ?_
        refine GT_st rfl rfl rfl rfl (V_index (k := 2) rfl rfl rfl Tryd.underlying25 sz_5 rfl (by omega) (h.isSome (k := 2) (by omega))) ?_
        refine GT_st rfl rfl rfl rfl (V_load rfl rfl ag_5 (h.at0 noM (k := 2) (by omega) rfl)) ?_
        refine GT_st rfl rfl rfl rfl (V_convII rfl rfl (by rw [Tryd.underlying5]; rfl) Tryd.underlying3 ((wrap_i64 (by omega)).trans (show _ = ((kN b : Nat) : Int) from rfl))) ?_
        refine GT_st rfl rfl rfl rfl (V_add rfl rfl rfl ((wrap_i64 (by omega)).trans (show _ = ((3 + kN b : Nat) : Int) by omega))) ?_
        refine GT_st rfl rfl rfl rfl (V_assign rfl rfl) ?_
        refine GT_nil ?_
        refine GE_seq ?_
        refine GE_slots (L' := [(0, _), (2, _), (4, _)]) ⟨rfl, rfl, rfl, trivial⟩ ?_
        refine GE_plain (.st 0 (.st 1 (.st 2 (.ld 3 [] (.st 4 (.ld 5 [] (.ld 6 [] .nil))))))) rfl ?_
        refine GT_st rfl rfl rfl rfl (V_move rfl rfl) ?_
        refine GT_st rfl rfl rfl rfl (V_move rfl rfl) ?_
        refine GT_st rfl rfl rfl rfl (V_sliceFTL rfl rfl rfl rfl Tryd.underlying25 sz_5 (lo := 3) (k := kN b) rfl rfl (by omega) hc) ?_
        refine GT_ldv rfl rfl rfl rfl rfl (V_bytesStr rfl rfl Tryd.underlying25 Tryd.underlying5 Tryd.underlying9 (fun w m => ((h.drop 3 hc).take (kN b)).sh m)) (GR_nil) ?_
        refine GT_st rfl rfl rfl rfl (V_build (vs := [_, _]) rfl rfl zc_24 pl_24 sa_24 rfl) ?_
        refine GT_alloc rfl rfl rfl rfl rfl zc_24 (fun _ => GR_nil) (fun b5 => ?_)
        refine GT_store (vs := [_, _]) (l' := [_, _]) rfl rfl rfl rfl rfl rfl rfl sz_24 rfl rfl (Nat.le_of_ble_eq_true rfl) rfl (GR_nil) ?_
        refine GT_nil ?_
        refine GE_seq ?_
        refine GE_slots (L' := [(0, _), (2, _), (4, _), (5, _)]) ⟨rfl, rfl, rfl, rfl, trivial⟩ ?_
        refine GE_plain (.st 0 (.st 1 (.ld 2 [] (.st 3 .nil)))) rfl ?_
        refine GT_st rfl rfl rfl rfl (V_move rfl rfl) ?_
        refine GT_st rfl rfl rfl rfl (V_move rfl rfl) ?_
        refine GT_call0 rfl rfl rfl rfl rfl rfl rfl rfl rn_22 (fun w hw => C_get (h.sh hw) (by omega) (by omega)) (GR_nil) ?_
        refine GT_st rfl rfl rfl rfl (V_assign rfl rfl) ?_
        refine GT_nil ?_
        refine GE_seq ?_
        refine GE_seq ?_
        refine GE_plain (.st 0 .nil) rfl ?_
        refine GT_st rfl rfl rfl rfl (V_assign rfl rfl) ?_
        refine GT_nil ?_
        refine GE_block ?_
        refine GE_to (GE_loop (ι := Nat × (Option Addr × Nat × Items)) (fun z => 5000 - z.1) (fun z => [(0, .slice A b.length c), (2, ptr b2 0), (4, I ((3 + kN b : Nat) : Int)), (5, ptr b5 0), (6, I (get2 b (3 + kN b))), (7, I z.1)]) (fun z => (b2, blk [.string .empty, .slice none 0 0] 24) :: (b5, blk [.string (stz ((b.drop 3).take (kN b))), .slice z.2.1 ((List.range z.1).map (smA b)).length z.2.2.1] 24) :: z.2.2.2) (fun z => (z.1 ≤ (get2 b (3 + kN b)).toNat ∧ z.1 ≤ 5000) ∧ Own 2 45 eSam ((List.range z.1).map (smA b)) (.slice z.2.1 ((List.range z.1).map (smA b)).length z.2.2.1) z.2.2.2) ?_ (0, (none, 0, [])) ?_) ⟨rfl, rfl, rfl, rfl, rfl, rfl, trivial⟩ (HS.cons rfl (HS.cons rfl HS.nil))
        · rintro ⟨k, y⟩ ⟨⟨hk, hk5⟩, hO⟩ ih; dsimp only at hk hk5 hO ih ⊢; have hb1 := get2_bd b (3 + kN b + 2 + 4 * k); have hb2 := get2_bd b (3 + kN b + 4 + 4 * k); have hlk : ((List.range k).map (smA b)).length = k := (by rw [List.length_map, List.length_range])
          refine GE_seq ?_
          refine GE_seq ?_
          refine GE_plain (.st 0 (.st 1 (.st 2 (.st 3 (.st 4 (.st 5 (.st 6 .nil))))))) rfl ?_
          refine GT_st rfl rfl rfl rfl (V_move rfl rfl) ?_
          refine GT_st rfl rfl rfl rfl (V_move rfl rfl) ?_
          refine GT_st rfl rfl rfl rfl (V_lss rfl rfl rfl) ?_
          refine GT_st rfl rfl rfl rfl (V_move rfl rfl) ?_
          first | refine GT_splitNot (d := 44) rfl (fun q3 => ?_) (fun q3 => ?_) | refine GT_split (d := 44) rfl (fun q3 => ?_) (fun q3 => ?_) | refine GT_splitNotB (d := 44) rfl (fun q3 => ?_) (fun q3 => ?_) | refine GT_splitB (d := 44) rfl (fun q3 => ?_) (fun q3 => ?_)
          · skip
            refine GT_st_g rfl rfl rfl rfl rfl rfl rfl (V_move rfl rfl) ?_
            refine GT_st_g rfl rfl rfl rfl rfl rfl rfl (V_lss rfl rfl rfl) ?_
            refine GT_st rfl rfl rfl rfl (V_pick_t rfl rfl rfl) ?_
            refine GT_nil ?_
            first | refine GE_cond rfl (fun q4 => ?_) (fun q4 => ?_)
            · skip
              refine GE_skip ?_
              refine GE_seq ?_
              refine GE_block ?_
              refine GE_slots (L' := [(0, _), (2, _), (4, _), (5, _), (6, _), (7, _), (45, _), (46, _)]) ⟨rfl, rfl, rfl, rfl, rfl, rfl, rfl, rfl, trivial⟩ ?_
              refine GE_drawn (.st 0 (.st 1 (.st 2 (.st 3 (.st 4 (.st 5 (.st 6 (.st 7 (.st 10 (.st 11 (.st 12 (.st 13 (.st 14 (.st 15 (.ld 8 [0, 1, 10, 11, 12, 13, 14, 15] (.st 9 (.ld 16 [0, 1, 9] (.st 17 (.st 18 (.ld 19 [0, 1] (.ld 20 [] (.st 21 (.ld 22 [] .nil))))))))))))))))))))))) [8, 16, 19, 20, 22] (by decide +kernel) ?_
              first | refine GT_st rfl rfl rfl rfl (V_field rfl rfl fo_24_1) ?_ | refine GT_st rfl rfl rfl rfl (V_fieldA rfl rfl fo_24_1) ?_
              refine GT_st rfl rfl rfl rfl (V_load rfl rfl ag_22 (CellAt.item rfl)) ?_
              refine GT_st rfl rfl rfl rfl (V_move rfl rfl) ?_
              refine GT_st rfl rfl rfl rfl (V_move rfl rfl) ?_
              refine GT_st rfl rfl rfl rfl (V_add rfl rfl rfl (wrap_i64 (by omega))) ?_
              refine GT_st rfl rfl rfl rfl (V_move rfl rfl) ?_
              refine GT_st rfl rfl rfl rfl (V_mul rfl rfl rfl (wrap_i64 (by omega))) ?_
              refine GT_st rfl rfl rfl rfl (V_add rfl rfl rfl ((wrap_i64 (by omega)).trans (show _ = ((3 + kN b + 2 + 4 * k : Nat) : Int) by omega))) ?_
              refine GT_st rfl rfl rfl rfl (V_move rfl rfl) ?_
              refine GT_st rfl rfl rfl rfl (V_move rfl rfl) ?_
              refine GT_st rfl rfl rfl rfl (V_add rfl rfl rfl (wrap_i64 (by omega))) ?_
              refine GT_st rfl rfl rfl rfl (V_move rfl rfl) ?_
              refine GT_st rfl rfl rfl rfl (V_mul rfl rfl rfl (wrap_i64 (by omega))) ?_
              refine GT_st rfl rfl rfl rfl (V_add rfl rfl rfl ((wrap_i64 (by omega)).trans (show _ = ((3 + kN b + 4 + 4 * k : Nat) : Int) by omega))) ?_
              refine GT_call0 rfl rfl rfl rfl rfl rfl rfl rfl rn_22 (fun w hw => C_get (h.sh hw) (by omega) (by omega)) (GR_cons rfl rfl rfl rfl ((by first | exact V_field rfl rfl fo_24_1 | exact V_fieldA rfl rfl fo_24_1)) (GR_cons rfl rfl rfl rfl (V_load rfl rfl ag_22 (CellAt.item rfl)) (GR_cons rfl rfl rfl rfl (V_move rfl rfl) (GR_cons rfl rfl rfl rfl (V_move rfl rfl) (GR_cons rfl rfl rfl rfl (V_add rfl rfl rfl (wrap_i64 (by omega))) (GR_cons rfl rfl rfl rfl (V_move rfl rfl) (GR_cons rfl rfl rfl rfl (V_mul rfl rfl rfl (wrap_i64 (by omega))) (GR_cons rfl rfl rfl rfl (V_add rfl rfl rfl ((wrap_i64 (by omega)).trans (show _ = ((3 + kN b + 4 + 4 * k : Nat) : Int) by omega))) (GR_nil))))))))) ?_
              refine GT_st rfl rfl rfl rfl (V_sub rfl rfl rfl (wrap_i64 (by omega))) ?_
              refine GT_call0 rfl rfl rfl rfl rfl rfl rfl rfl rn_22 (fun w hw => C_get (h.sh hw) (by omega) (by omega)) (GR_cons rfl rfl rfl rfl ((by first | exact V_field rfl rfl fo_24_1 | exact V_fieldA rfl rfl fo_24_1)) (GR_cons rfl rfl rfl rfl (V_load rfl rfl ag_22 (CellAt.item rfl)) (GR_cons rfl rfl rfl rfl (V_sub rfl rfl rfl (wrap_i64 (by omega))) (GR_nil)))) ?_
              refine GT_st rfl rfl rfl rfl (V_sub rfl rfl rfl (wrap_i64 (by omega))) ?_
              refine GT_st rfl rfl rfl rfl (V_build (vs := [_, _]) rfl rfl zc_45 pl_45 sa_45 rfl) ?_
              refine GT_buildSlice (z := [_, _]) rfl rfl rfl rfl rfl Tryd.underlying22 zc_45 sz_45 (by decide) rfl rfl (fun _ => GR_cons rfl rfl rfl rfl ((by first | exact V_field rfl rfl fo_24_1 | exact V_fieldA rfl rfl fo_24_1)) (GR_cons rfl rfl rfl rfl (V_load rfl rfl ag_22 (CellAt.item rfl)) (GR_nil))) (fun b69 => ?_)
              refine GT_append (enc := eSam) (m := [⟨get2 b (3 + kN b + 2 + 4 * k) - 32768, get2 b (3 + kN b + 4 + 4 * k) - 32768⟩]) rfl rfl rfl rfl rfl rfl rfl hO (fun w m => RdL.own' m eSam_len) Tryd.underlying22 zc_45 sz_45 ⟨rfl, by decide⟩ by_45 ⟨by simp only [List.length_singleton]; omega, by simp only [List.length_singleton]; omega⟩ eSam_len eSam_one (fun _ _ _ _ => GR_nil) (fun A3 c3 I3 hO3 => ?_)
              first | refine GT_st rfl rfl rfl rfl (V_field rfl rfl fo_24_1) ?_ | refine GT_st rfl rfl rfl rfl (V_fieldA rfl rfl fo_24_1) ?_
              refine GT_store (vs := [_]) (l' := [_, _]) rfl rfl rfl rfl rfl rfl rfl sz_22 rfl rfl (Nat.le_of_ble_eq_true rfl) rfl (GR_nil) ?_
              refine GT_nil ?_
              refine GE_inBlock ?_
              refine GE_slots (L' := [(0, _), (2, _), (4, _), (5, _), (6, _), (7, _), (45, _), (46, _)]) ⟨rfl, rfl, rfl, rfl, rfl, rfl, rfl, rfl, trivial⟩ ?_
              refine GE_plain (.st 0 (.st 1 (.ld 2 [] .nil))) rfl ?_
              refine GT_st rfl rfl rfl rfl (V_move rfl rfl) ?_
              refine GT_st rfl rfl rfl rfl (V_add rfl rfl rfl (wrap_i64 (by omega))) ?_
              refine GT_ldv rfl rfl rfl rfl rfl (V_assign rfl rfl) (GR_nil) ?_
              refine GT_nil ?_
              have eS : (List.range k).map (smA b) ++ [⟨get2 b (3 + kN b + 2 + 4 * k) - 32768, get2 b (3 + kN b + 4 + 4 * k) - 32768⟩] = (List.range (k + 1)).map (smA b) := (by rw [List.range_succ, List.map_append]; rfl); rw [eS] at hO3 ⊢; exact GE_to (ih (k + 1, (A3, c3, I3)) ⟨⟨by dsimp only; omega, by dsimp only; omega⟩, hO3⟩ (by dsimp only; omega)) ⟨rfl, rfl, rfl, rfl, rfl, lookI rfl (by dsimp only; omega), trivial⟩ (HS.cons rfl (HS.cons rfl HS.last))
            · have hp : par2 b = (stz ((b.drop 3).take (kN b)), (List.range k).map (smA b)) := (by rw [par2_eq, show min (get2 b (3 + kN b)).toNat 5000 = k by omega])
              refine GE_exit rfl ?_
              refine GE_seq ?_
              refine GE_slots (L' := [(0, _), (2, _), (5, _)]) ⟨rfl, rfl, rfl, trivial⟩ ?_
              refine GE_plain (.st 0 (.ld 1 [] (.st 2 (.st 3 (.st 4 (.st 5 (.st 6 .nil))))))) rfl ?_
              refine GT_st rfl rfl rfl rfl (V_loadN (vs := [_, _]) rfl rfl ag_24 sz_24 rfl (CellsAt.item rfl)) ?_
              refine GT_call rfl rfl rfl rfl rfl rfl rfl rfl rn_7 (fun w hw => C_rPack (t := ⟨stz ((b.drop 3).take (kN b)), y.1, y.2.1, (List.range k).map (smA b)⟩) (hO.rdH eSam_len hw) (smA_wf b k)) (fun _ _ => GR_nil) (fun u hu => ?_)
              refine GT_st rfl rfl rfl rfl (V_move rfl rfl) ?_
              refine GT_st rfl rfl rfl rfl (V_extract rfl rfl rfl) ?_
              refine GT_st rfl rfl rfl rfl (V_extract rfl rfl rfl) ?_
              refine GT_st rfl rfl rfl rfl (V_assign rfl rfl) ?_
              refine GT_st rfl rfl rfl rfl (V_assign rfl rfl) ?_
              refine GT_nil ?_
              refine GE_seq ?_
              refine GE_seq ?_
              refine GE_slots (L' := [(0, _), (2, _), (5, _), (8, _), (9, _)]) ⟨rfl, rfl, rfl, rfl, rfl, trivial⟩ ?_
              refine GE_plain (.st 0 (.st 1 (.st 2 (.st 3 (.ld 4 [] (.st 5 (.ld 6 [] (.st 7 (.st 8 .nil))))))))) rfl ?_
              refine GT_st rfl rfl rfl rfl (V_move rfl rfl) ?_
              refine GT_st rfl rfl rfl rfl (V_neq rfl rfl rfl) ?_
              refine GT_st rfl rfl rfl rfl (V_move rfl rfl) ?_
              first | refine GT_splitNot (d := 79) rfl (fun q5 => ?_) (fun q5 => ?_) | refine GT_split (d := 79) rfl (fun q5 => ?_) (fun q5 => ?_) | refine GT_splitNotB (d := 79) rfl (fun q5 => ?_) (fun q5 => ?_) | refine GT_splitB (d := 79) rfl (fun q5 => ?_) (fun q5 => ?_)
              · skip
                refine GT_skip rfl rfl rfl rfl rfl (by decide) rfl rfl ?_
                refine GT_skip_ld rfl rfl rfl rfl rfl (by decide) rfl rfl rfl (GR_nil) ?_
                refine GT_skip rfl rfl rfl rfl rfl (by decide) rfl rfl ?_
                refine GT_skip_ld rfl rfl rfl rfl rfl (by decide) rfl rfl rfl (GR_nil) ?_
                refine GT_skip rfl rfl rfl rfl rfl (by decide) rfl rfl ?_
                refine GT_st rfl rfl rfl rfl (V_pick_t rfl rfl rfl) ?_
                refine GT_nil ?_
                refine GE_cond_t rfl ?_
                refine GE_seq ?_
                refine GE_slots (L' := [(2, _)]) ⟨rfl, trivial⟩ ?_
                refine GE_plain (.st 0 (.ld 1 [] (.st 2 .nil))) rfl ?_
                refine GT_st rfl rfl rfl rfl (V_build (vs := [_, _]) rfl rfl zc_24 pl_24 sa_24 rfl) ?_
                refine GT_store (vs := [_, _]) (l' := [_, _]) rfl rfl rfl rfl rfl rfl rfl sz_24 rfl rfl (Nat.le_of_ble_eq_true rfl) rfl (GR_nil) ?_
                refine GT_st rfl rfl rfl rfl (V_assign rfl rfl) ?_
                refine GT_nil ?_
                refine GE_ret Tryd.func9 ⟨_, _, ⟨_, rfl, fun w m => run_loadVar_agg (vs := [_, _]) ag_24 sz_24 rfl (fun j v hj => CellsAt.item rfl j v hj w m)⟩, rfl, rfl⟩ (fun w hw => ?_)
                have e : un2 b = (td0, 8) := (by rw [eU2, hp]; refine if_neg ?_; rintro ⟨e1, e2⟩; first | exact q5 e1 | (refine q6 ?_; rw [pkL, if_pos (show tkE (stz ((b.drop 3).take (kN b)), (List.range k).map (smA b)) = 0 from e1)]; exact congrArg stz e2)); exact ⟨(none, 0, []), by rw [e]; exact Own.nil, by rw [e] <;> rfl, hw.nil⟩
              · skip
                refine GT_st_g rfl rfl rfl rfl rfl rfl rfl (V_move rfl rfl) ?_
                refine GT_ldv_g rfl rfl rfl rfl rfl rfl rfl rfl (V_bytesStr rfl rfl Tryd.underlying25 Tryd.underlying5 Tryd.underlying9 (fun w m => hu.rdH eU_len m)) (GR_nil) ?_
                refine GT_st_g rfl rfl rfl rfl rfl rfl rfl (V_move rfl rfl) ?_
                refine GT_ldv_g rfl rfl rfl rfl rfl rfl rfl rfl (V_bytesStr rfl rfl Tryd.underlying25 Tryd.underlying5 Tryd.underlying9 (fun w m => h.sh m)) (GR_nil) ?_
                refine GT_st_g rfl rfl rfl rfl rfl rfl rfl (V_neqStr rfl rfl rfl) ?_
                refine GT_st rfl rfl rfl rfl (V_pick_f rfl rfl rfl) ?_
                refine GT_nil ?_
                first | refine GE_condNot rfl (fun q6 => ?_) (fun q6 => ?_) | refine GE_cond rfl (fun q6 => ?_) (fun q6 => ?_) | refine GE_condNotB rfl (fun q6 => ?_) (fun q6 => ?_) | refine GE_condB rfl (fun q6 => ?_) (fun q6 => ?_)
                · skip
                  refine GE_seq ?_
                  refine GE_slots (L' := [(2, _)]) ⟨rfl, trivial⟩ ?_
                  refine GE_plain (.st 0 (.ld 1 [] (.st 2 .nil))) rfl ?_
                  refine GT_st rfl rfl rfl rfl (V_build (vs := [_, _]) rfl rfl zc_24 pl_24 sa_24 rfl) ?_
                  refine GT_store (vs := [_, _]) (l' := [_, _]) rfl rfl rfl rfl rfl rfl rfl sz_24 rfl rfl (Nat.le_of_ble_eq_true rfl) rfl (GR_nil) ?_
                  refine GT_st rfl rfl rfl rfl (V_assign rfl rfl) ?_
                  refine GT_nil ?_
                  refine GE_ret Tryd.func9 ⟨_, _, ⟨_, rfl, fun w m => run_loadVar_agg (vs := [_, _]) ag_24 sz_24 rfl (fun j v hj => CellsAt.item rfl j v hj w m)⟩, rfl, rfl⟩ (fun w hw => ?_)
                  have e : un2 b = (td0, 8) := (by rw [eU2, hp]; refine if_neg ?_; rintro ⟨e1, e2⟩; first | exact q5 e1 | (refine q6 ?_; rw [pkL, if_pos (show tkE (stz ((b.drop 3).take (kN b)), (List.range k).map (smA b)) = 0 from e1)]; exact congrArg stz e2)); exact ⟨(none, 0, []), by rw [e]; exact Own.nil, by rw [e] <;> rfl, hw.nil⟩
                · skip
                  refine GE_skip ?_
                  refine GE_seq ?_
                  refine GE_slots (L' := [(2, _), (5, _)]) ⟨rfl, rfl, trivial⟩ ?_
                  refine GE_plain (.st 0 (.ld 1 [] (.st 2 .nil))) rfl ?_
                  refine GT_st rfl rfl rfl rfl (V_loadN (vs := [_, _]) rfl rfl ag_24 sz_24 rfl (CellsAt.item rfl)) ?_
                  refine GT_store (vs := [_, _]) (l' := [_, _]) rfl rfl rfl rfl rfl rfl rfl sz_24 rfl rfl (Nat.le_of_ble_eq_true rfl) rfl (GR_nil) ?_
                  refine GT_st rfl rfl rfl rfl (V_assign rfl rfl) ?_
                  refine GT_nil ?_
                  refine GE_ret Tryd.func9 ⟨_, _, ⟨_, rfl, fun w m => run_loadVar_agg (vs := [_, _]) ag_24 sz_24 rfl (fun j v hj => CellsAt.item rfl j v hj w m)⟩, rfl, rfl⟩ (fun w hw => ?_)
                  have e : un2 b = ((stz ((b.drop 3).take (kN b)), (List.range k).map (smA b)), 0) := (by rw [eU2, hp]; refine if_pos ⟨q5, ?_⟩; have q7 := stz_inj.1 q6; rw [pkL, if_pos (show tkE (stz ((b.drop 3).take (kN b)), (List.range k).map (smA b)) = 0 from q5)] at q7; exact q7); exact ⟨y, by rw [e]; exact hO, by rw [e] <;> rfl, hw.hs (C := cx Tryd.prog hm 0 0 _ none' fun _ _ => True) HS.last⟩
          · have hp : par2 b = (stz ((b.drop 3).take (kN b)), (List.range k).map (smA b)) := (by rw [par2_eq, show min (get2 b (3 + kN b)).toNat 5000 = k by omega])
            refine GT_skip rfl rfl rfl rfl rfl (by decide) rfl rfl ?_
            refine GT_skip rfl rfl rfl rfl rfl (by decide) rfl rfl ?_
            refine GT_st rfl rfl rfl rfl (V_pick_f rfl rfl rfl) ?_
            refine GT_nil ?_
            refine GE_cond_f rfl ?_
            refine GE_exit rfl ?_
            refine GE_seq ?_
            refine GE_slots (L' := [(0, _), (2, _), (5, _)]) ⟨rfl, rfl, rfl, trivial⟩ ?_
            refine GE_plain (.st 0 (.ld 1 [] (.st 2 (.st 3 (.st 4 (.st 5 (.st 6 .nil))))))) rfl ?_
            refine GT_st rfl rfl rfl rfl (V_loadN (vs := [_, _]) rfl rfl ag_24 sz_24 rfl (CellsAt.item rfl)) ?_
            refine GT_call rfl rfl rfl rfl rfl rfl rfl rfl rn_7 (fun w hw => C_rPack (t := ⟨stz ((b.drop 3).take (kN b)), y.1, y.2.1, (List.range k).map (smA b)⟩) (hO.rdH eSam_len hw) (smA_wf b k)) (fun _ _ => GR_nil) (fun u hu => ?_)
            refine GT_st rfl rfl rfl rfl (V_move rfl rfl) ?_
            refine GT_st rfl rfl rfl rfl (V_extract rfl rfl rfl) ?_
            refine GT_st rfl rfl rfl rfl (V_extract rfl rfl rfl) ?_
            refine GT_st rfl rfl rfl rfl (V_assign rfl rfl) ?_
            refine GT_st rfl rfl rfl rfl (V_assign rfl rfl) ?_
            refine GT_nil ?_
            refine GE_seq ?_
            refine GE_seq ?_
            refine GE_slots (L' := [(0, _), (2, _), (5, _), (8, _), (9, _)]) ⟨rfl, rfl, rfl, rfl, rfl, trivial⟩ ?_
            refine GE_plain (.st 0 (.st 1 (.st 2 (.st 3 (.ld 4 [] (.st 5 (.ld 6 [] (.st 7 (.st 8 .nil))))))))) rfl ?_
            refine GT_st rfl rfl rfl rfl (V_move rfl rfl) ?_
            refine GT_st rfl rfl rfl rfl (V_neq rfl rfl rfl) ?_
            refine GT_st rfl rfl rfl rfl (V_move rfl rfl) ?_
            first | refine GT_splitNot (d := 79) rfl (fun q5 => ?_) (fun q5 => ?_) | refine GT_split (d := 79) rfl (fun q5 => ?_) (fun q5 => ?_) | refine GT_splitNotB (d := 79) rfl (fun q5 => ?_) (fun q5 => ?_) | refine GT_splitB (d := 79) rfl (fun q5 => ?_) (fun q5 => ?_)
            · skip
              refine GT_skip rfl rfl rfl rfl rfl (by decide) rfl rfl ?_
              refine GT_skip_ld rfl rfl rfl rfl rfl (by decide) rfl rfl rfl (GR_nil) ?_
              refine GT_skip rfl rfl rfl rfl rfl (by decide) rfl rfl ?_
              refine GT_skip_ld rfl rfl rfl rfl rfl (by decide) rfl rfl rfl (GR_nil) ?_
              refine GT_skip rfl rfl rfl rfl rfl (by decide) rfl rfl ?_
              refine GT_st rfl rfl rfl rfl (V_pick_t rfl rfl rfl) ?_
              refine GT_nil ?_
              refine GE_cond_t rfl ?_
              refine GE_seq ?_
              refine GE_slots (L' := [(2, _)]) ⟨rfl, trivial⟩ ?_
              refine GE_plain (.st 0 (.ld 1 [] (.st 2 .nil))) rfl ?_
              refine GT_st rfl rfl rfl rfl (V_build (vs := [_, _]) rfl rfl zc_24 pl_24 sa_24 rfl) ?_
              refine GT_store (vs := [_, _]) (l' := [_, _]) rfl rfl rfl rfl rfl rfl rfl sz_24 rfl rfl (Nat.le_of_ble_eq_true rfl) rfl (GR_nil) ?_
              refine GT_st rfl rfl rfl rfl (V_assign rfl rfl) ?_
              refine GT_nil ?_
              refine GE_ret Tryd.func9 ⟨_, _, ⟨_, rfl, fun w m => run_loadVar_agg (vs := [_, _]) ag_24 sz_24 rfl (fun j v hj => CellsAt.item rfl j v hj w m)⟩, rfl, rfl⟩ (fun w hw => ?_)
              have e : un2 b = (td0, 8) := (by rw [eU2, hp]; refine if_neg ?_; rintro ⟨e1, e2⟩; first | exact q5 e1 | (refine q6 ?_; rw [pkL, if_pos (show tkE (stz ((b.drop 3).take (kN b)), (List.range k).map (smA b)) = 0 from e1)]; exact congrArg stz e2)); exact ⟨(none, 0, []), by rw [e]; exact Own.nil, by rw [e] <;> rfl, hw.nil⟩
            · skip
              refine GT_st_g rfl rfl rfl rfl rfl rfl rfl (V_move rfl rfl) ?_
              refine GT_ldv_g rfl rfl rfl rfl rfl rfl rfl rfl (V_bytesStr rfl rfl Tryd.underlying25 Tryd.underlying5 Tryd.underlying9 (fun w m => hu.rdH eU_len m)) (GR_nil) ?_
              refine GT_st_g rfl rfl rfl rfl rfl rfl rfl (V_move rfl rfl) ?_
              refine GT_ldv_g rfl rfl rfl rfl rfl rfl rfl rfl (V_bytesStr rfl rfl Tryd.underlying25 Tryd.underlying5 Tryd.underlying9 (fun w m => h.sh m)) (GR_nil) ?_
              refine GT_st_g rfl rfl rfl rfl rfl rfl rfl (V_neqStr rfl rfl rfl) ?_
              refine GT_st rfl rfl rfl rfl (V_pick_f rfl rfl rfl) ?_
              refine GT_nil ?_
              first | refine GE_condNot rfl (fun q6 => ?_) (fun q6 => ?_) | refine GE_cond rfl (fun q6 => ?_) (fun q6 => ?_) | refine GE_condNotB rfl (fun q6 => ?_) (fun q6 => ?_) | refine GE_condB rfl (fun q6 => ?_) (fun q6 => ?_)
              · skip
                refine GE_seq ?_
                refine GE_slots (L' := [(2, _)]) ⟨rfl, trivial⟩ ?_
                refine GE_plain (.st 0 (.ld 1 [] (.st 2 .nil))) rfl ?_
                refine GT_st rfl rfl rfl rfl (V_build (vs := [_, _]) rfl rfl zc_24 pl_24 sa_24 rfl) ?_
                refine GT_store (vs := [_, _]) (l' := [_, _]) rfl rfl rfl rfl rfl rfl rfl sz_24 rfl rfl (Nat.le_of_ble_eq_true rfl) rfl (GR_nil) ?_
                refine GT_st rfl rfl rfl rfl (V_assign rfl rfl) ?_
                refine GT_nil ?_
                refine GE_ret Tryd.func9 ⟨_, _, ⟨_, rfl, fun w m => run_loadVar_agg (vs := [_, _]) ag_24 sz_24 rfl (fun j v hj => CellsAt.item rfl j v hj w m)⟩, rfl, rfl⟩ (fun w hw => ?_)
                have e : un2 b = (td0, 8) := (by rw [eU2, hp]; refine if_neg ?_; rintro ⟨e1, e2⟩; first | exact q5 e1 | (refine q6 ?_; rw [pkL, if_pos (show tkE (stz ((b.drop 3).take (kN b)), (List.range k).map (smA b)) = 0 from e1)]; exact congrArg stz e2)); exact ⟨(none, 0, []), by rw [e]; exact Own.nil, by rw [e] <;> rfl, hw.nil⟩
              · skip
                refine GE_skip ?_
                refine GE_seq ?_
                refine GE_slots (L' := [(2, _), (5, _)]) ⟨rfl, rfl, trivial⟩ ?_
                refine GE_plain (.st 0 (.ld 1 [] (.st 2 .nil))) rfl ?_
                refine GT_st rfl rfl rfl rfl (V_loadN (vs := [_, _]) rfl rfl ag_24 sz_24 rfl (CellsAt.item rfl)) ?_
                refine GT_store (vs := [_, _]) (l' := [_, _]) rfl rfl rfl rfl rfl rfl rfl sz_24 rfl rfl (Nat.le_of_ble_eq_true rfl) rfl (GR_nil) ?_
                refine GT_st rfl rfl rfl rfl (V_assign rfl rfl) ?_
                refine GT_nil ?_
                refine GE_ret Tryd.func9 ⟨_, _, ⟨_, rfl, fun w m => run_loadVar_agg (vs := [_, _]) ag_24 sz_24 rfl (fun j v hj => CellsAt.item rfl j v hj w m)⟩, rfl, rfl⟩ (fun w hw => ?_)
                have e : un2 b = ((stz ((b.drop 3).take (kN b)), (List.range k).map (smA b)), 0) := (by rw [eU2, hp]; refine if_pos ⟨q5, ?_⟩; have q7 := stz_inj.1 q6; rw [pkL, if_pos (show tkE (stz ((b.drop 3).take (kN b)), (List.range k).map (smA b)) = 0 from q5)] at q7; exact q7); exact ⟨y, by rw [e]; exact hO, by rw [e] <;> rfl, hw.hs (C := cx Tryd.prog hm 0 0 _ none' fun _ _ => True) HS.last⟩
        · exact ⟨⟨Nat.zero_le _, Nat.zero_le _⟩, Own.nil⟩
end
end Go.Proofs.YtdcjgjopmicidaaDoor
