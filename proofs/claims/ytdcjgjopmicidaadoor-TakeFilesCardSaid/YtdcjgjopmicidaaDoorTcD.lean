/- The file of a take: the document's Pack, walked to its end. -/
import Derived.Test.YtdcjgjopmicidaaDoorTcC
namespace Go.Proofs.YtdcjgjopmicidaaDoor
open Go.Sx Go.Proofs Go.RowKit

set_option maxRecDepth 10000 in
theorem C_rPack {w : World} {t : Tk} (h : RdL w 2 eSam t.A t.data) (hs : ∀ x ∈ t.data, x.wf) : Con Tryd.prog 7 [.agg #[.string t.name, .slice t.A t.data.length t.c]] w (fun y : Option Addr × Nat × Items => OwnB (pkL (t.name, t.data)) y)
    (fun y => .tuple #[.slice y.1 (pkL (t.name, t.data)).length y.2.1, I (tErr t)]) (fun y => y.2.2) := by
  refine Ret_of (vs := [_]) hm none' Tryd.func7 rfl Tryd.ntmps7 rfl ?_
  dsimp only [slotsOf]
  refine GE_seq ?_
  refine GE_plain (.ld 0 [] (.st 1 (.st 2 .nil))) rfl ?_
  refine GT_box (z := [_, _]) rfl rfl rfl rfl rfl rfl rfl (fun _ => GR_nil) (fun b1 => ?_)
  refine GT_st rfl rfl rfl rfl (V_assign rfl rfl) ?_
  refine GT_st rfl rfl rfl rfl (V_assign rfl rfl) ?_
  refine GT_nil ?_
  refine GE_seq ?_
  refine GE_seq ?_
  refine GE_plain (.st 0 (.ld 1 [] (.st 2 .nil))) rfl ?_
  refine GT_st rfl rfl rfl rfl (V_loadN (vs := [_, _]) rfl rfl ag_24 sz_24 rfl (CellsAt.item rfl)) ?_
  refine GT_call0 rfl rfl rfl rfl rfl rfl rfl rfl rn_17 (fun w hw => C_rtake (h.sh hw) hs) (GR_nil) ?_
  refine GT_st rfl rfl rfl rfl (V_neq rfl rfl rfl) ?_
  refine GT_nil ?_
  first | refine GE_condNot rfl (fun h1 => ?_) (fun h1 => ?_) | refine GE_cond rfl (fun h1 => ?_) (fun h1 => ?_) | refine GE_condNotB rfl (fun h1 => ?_) (fun h1 => ?_) | refine GE_condB rfl (fun h1 => ?_) (fun h1 => ?_)
  · skip
    refine GE_seq ?_
    refine GE_slots (L' := [(1, _)]) ⟨rfl, trivial⟩ ?_
    refine GE_plain (.st 0 (.ld 1 [] (.st 2 (.st 3 .nil)))) rfl ?_
    refine GT_st rfl rfl rfl rfl (V_loadN (vs := [_, _]) rfl rfl ag_24 sz_24 rfl (CellsAt.item rfl)) ?_
    refine GT_call0 rfl rfl rfl rfl rfl rfl rfl rfl rn_17 (fun w hw => C_rtake (h.sh hw) hs) (GR_nil) ?_
    refine GT_st rfl rfl rfl rfl (V_assign rfl rfl) ?_
    refine GT_st rfl rfl rfl rfl (V_assign rfl rfl) ?_
    refine GT_nil ?_
    refine GE_ret Tryd.func7 ⟨_, _, rfl, rfl, rfl⟩ (fun w hw => ?_)
    first | (have e : pkL (t.name, t.data) = bod (t.name, t.data) ++ beR (65536 * (adl cs0 (bod (t.name, t.data))).2 + (adl cs0 (bod (t.name, t.data))).1) 4 4 := (by rw [be4 hb4]; exact if_pos h1); exact ⟨y51, by rw [e]; exact hy51, by rw [e, h1] <;> rfl, hw.hs (C := cx Tryd.prog hm 0 0 _ none' fun _ _ => True) HS.last⟩) | (have e : pkL (t.name, t.data) = [] := if_neg h1; exact ⟨(none, 0, []), by rw [e]; exact Own.nil, by rw [e]; rfl, hw.nil⟩)
  · have ho := tkE_ok (x := (t.name, t.data)) h1; have hm1 : t.data.length ≤ 4096 := ho.most; have hnm : t.name.size ≤ 20 := ho.nm; have hbz : (byz t.name).length = t.name.size := byz_len _
    refine GE_skip ?_
    refine GE_seq ?_
    refine GE_slots (L' := [(1, _)]) ⟨rfl, trivial⟩ ?_
    refine GE_plain (.st 0 (.st 1 (.st 2 (.st 3 (.ld 4 [] (.st 5 (.st 6 (.ld 7 [] (.st 8 .nil))))))))) rfl ?_
    first | refine GT_st rfl rfl rfl rfl (V_field rfl rfl fo_24_0) ?_ | refine GT_st rfl rfl rfl rfl (V_fieldA rfl rfl fo_24_0) ?_
    refine GT_st rfl rfl rfl rfl (V_load rfl rfl ag_9 (CellAt.item rfl)) ?_
    refine GT_st rfl rfl rfl rfl (V_len_str rfl Tryd.underlying9 rfl) ?_
    refine GT_st rfl rfl rfl rfl (V_convII rfl rfl (by rw [Tryd.underlying3]; rfl) Tryd.underlying5 (wrap_by8 _)) ?_
    refine GT_buildSlice (z := [_, _, _]) rfl rfl rfl rfl rfl Tryd.underlying25 zc_5 sz_5 (by decide) rfl rfl (fun _ => GR_nil) (fun b15 => ?_)
    first | refine GT_st rfl rfl rfl rfl (V_field rfl rfl fo_24_0) ?_ | refine GT_st rfl rfl rfl rfl (V_fieldA rfl rfl fo_24_0) ?_
    refine GT_st rfl rfl rfl rfl (V_load rfl rfl ag_9 (CellAt.item rfl)) ?_
    refine GT_appendS (l := [84, 75, by8 t.name.size]) rfl rfl rfl rfl rfl rfl rfl (show Own 1 5 eU [84, 75, by8 t.name.size] (.slice (some ⟨b15, 0, none⟩) 3 3) [(b15, blk [.int .u8 84, .int .u8 75, .int .u8 (by8 t.name.size).toNat] 5)] from Own.lit rfl rfl (by decide)) Tryd.underlying25 Tryd.underlying9 zc_5 sz_5 rfl by_5 (by simp only [List.length_cons, List.length_nil]; omega) (fun _ _ _ _ => GR_nil) (fun A2 c2 I2 hO2 => ?_)
    refine GT_st rfl rfl rfl rfl (V_assign rfl rfl) ?_
    refine GT_nil ?_
    refine GE_seq ?_
    refine GE_slots (L' := [(1, _), (4, _)]) ⟨rfl, rfl, trivial⟩ ?_
    refine GE_plain (.st 0 (.st 1 (.st 2 (.st 3 (.ld 4 [] (.ld 5 [] .nil)))))) rfl ?_
    refine GT_st rfl rfl rfl rfl (V_move rfl rfl) ?_
    first | refine GT_st rfl rfl rfl rfl (V_field rfl rfl fo_24_1) ?_ | refine GT_st rfl rfl rfl rfl (V_fieldA rfl rfl fo_24_1) ?_
    refine GT_st rfl rfl rfl rfl (V_load rfl rfl ag_22 (CellAt.item rfl)) ?_
    refine GT_st rfl rfl rfl rfl (V_len rfl Tryd.underlying22 rfl) ?_
    refine GT_callX rfl rfl rfl rfl rfl rfl rfl rfl rn_18 (fun w m => C_put (many := 2) (bs := [84, 75, by8 t.name.size] ++ byz t.name) (H1 := [(b1, blk [.string t.name, .slice t.A t.data.length t.c] 24)]) (m.hs (HS.chunk (HS.cons rfl HS.nil))) hO2 (by simp only [List.length_append, List.length_cons, List.length_nil, hbz]; omega) (by decide)) (fun _ _ => GR_nil) (fun y23 hy23 => ?_)
    refine GT_ldv rfl rfl rfl rfl rfl (V_assign rfl rfl) (GR_nil) ?_
    refine GT_nil ?_
    refine GE_seq ?_
    refine GE_seq ?_
    refine GE_slots (L' := [(1, _), (4, _)]) ⟨rfl, rfl, trivial⟩ ?_
    refine GE_plain (.st 0 .nil) rfl ?_
    refine GT_st rfl rfl rfl rfl (V_assign rfl rfl) ?_
    refine GT_nil ?_
    refine GE_block ?_
    refine GE_to (GE_loop (ι := Nat × (Option Addr × Nat × Items)) (fun z => t.data.length - z.1) (fun z => [(1, ptr b1 0), (4, .slice z.2.1 (BK (t.name, t.data) z.1).length z.2.2.1), (5, I z.1)]) (fun z => z.2.2.2 ++ [(b1, blk [.string t.name, .slice t.A t.data.length t.c] 24)]) (fun z => z.1 ≤ t.data.length ∧ OwnB (BK (t.name, t.data) z.1) z.2) ?_ (0, y23) ?_) ⟨rfl, lookS rfl (by dsimp only; rw [BK0, be2]; rfl), rfl, trivial⟩ (HS.chunk HS.last)
    · rintro ⟨k, y⟩ ⟨hk, hO⟩ ih; dsimp only at hk hO ih ⊢; have hbl := BK_len ho k
      refine GE_seq ?_
      refine GE_seq ?_
      refine GE_plain (.st 0 (.st 1 (.st 2 (.st 3 (.st 4 .nil))))) rfl ?_
      refine GT_st rfl rfl rfl rfl (V_move rfl rfl) ?_
      first | refine GT_st rfl rfl rfl rfl (V_field rfl rfl fo_24_1) ?_ | refine GT_st rfl rfl rfl rfl (V_fieldA rfl rfl fo_24_1) ?_
      refine GT_st rfl rfl rfl rfl (V_load rfl rfl ag_22 (CellAt.item rfl)) ?_
      refine GT_st rfl rfl rfl rfl (V_len rfl Tryd.underlying22 rfl) ?_
      refine GT_st rfl rfl rfl rfl (V_lss rfl rfl rfl) ?_
      refine GT_nil ?_
      first | refine GE_condNot rfl (fun h2 => ?_) (fun h2 => ?_) | refine GE_cond rfl (fun h2 => ?_) (fun h2 => ?_) | refine GE_condNotB rfl (fun h2 => ?_) (fun h2 => ?_) | refine GE_condB rfl (fun h2 => ?_) (fun h2 => ?_)
      · have hkl : k < t.data.length := (by omega); have hok := Sam.ok_iff.1 (ho.each _ (getD_mem (l := t.data) hkl))
        refine GE_skip ?_
        refine GE_seq ?_
        refine GE_block ?_
        refine GE_slots (L' := [(1, _), (4, _), (5, _)]) ⟨rfl, rfl, rfl, trivial⟩ ?_
        refine GE_drawn (.st 0 (.st 1 (.st 2 (.st 3 (.st 4 (.st 5 (.st 6 (.st 7 (.st 9 (.st 10 (.st 11 (.st 12 (.st 13 (.st 14 (.st 15 (.ld 8 [9, 10, 11, 12, 13, 14, 15] (.ld 16 [] (.ld 17 [] .nil)))))))))))))))))) [8, 16, 17] (by decide +kernel) ?_
        refine GT_st rfl rfl rfl rfl (V_move rfl rfl) ?_
        first | refine GT_st rfl rfl rfl rfl (V_field rfl rfl fo_24_1) ?_ | refine GT_st rfl rfl rfl rfl (V_fieldA rfl rfl fo_24_1) ?_
        refine GT_st rfl rfl rfl rfl (V_load rfl rfl ag_22 (CellAt.item rfl)) ?_
        refine GT_st rfl rfl rfl rfl (V_move rfl rfl) ?_
        refine GT_st rfl rfl rfl rfl (V_index rfl rfl rfl Tryd.underlying22 sz_45 (k := k) rfl hkl (h.isSome hkl)) ?_
        first | refine GT_st rfl rfl rfl rfl (V_field rfl rfl fo_45_0) ?_ | refine GT_st rfl rfl rfl rfl (V_fieldA rfl rfl fo_45_0) ?_
        refine GT_st rfl rfl rfl rfl (V_load rfl rfl ag_2 (h.at0 noM hkl rfl)) ?_
        refine GT_st rfl rfl rfl rfl (V_add rfl rfl rfl (wrap_i64 (by omega))) ?_
        first | refine GT_st rfl rfl rfl rfl (V_field rfl rfl fo_24_1) ?_ | refine GT_st rfl rfl rfl rfl (V_fieldA rfl rfl fo_24_1) ?_
        refine GT_st rfl rfl rfl rfl (V_load rfl rfl ag_22 (CellAt.item rfl)) ?_
        refine GT_st rfl rfl rfl rfl (V_move rfl rfl) ?_
        refine GT_st rfl rfl rfl rfl (V_index rfl rfl rfl Tryd.underlying22 sz_45 (k := k) rfl hkl (h.isSome hkl)) ?_
        first | refine GT_st rfl rfl rfl rfl (V_field rfl rfl fo_45_1) ?_ | refine GT_st rfl rfl rfl rfl (V_fieldA rfl rfl fo_45_1) ?_
        refine GT_st rfl rfl rfl rfl (V_load rfl rfl ag_2 (h.at1 noM hkl rfl)) ?_
        refine GT_st rfl rfl rfl rfl (V_add rfl rfl rfl (wrap_i64 (by omega))) ?_
        refine GT_callX rfl rfl rfl rfl rfl rfl rfl rfl rn_18 (fun w m => C_put (many := 2) (H1 := [(b1, blk [.string t.name, .slice t.A t.data.length t.c] 24)]) (m.hs (HS.chunk HS.last)) hO (by omega) (by decide)) (fun _ _ => GR_cons rfl rfl rfl rfl ((by first | exact V_field rfl rfl fo_24_1 | exact V_fieldA rfl rfl fo_24_1)) (GR_cons rfl rfl rfl rfl (V_load rfl rfl ag_22 (CellAt.item rfl)) (GR_cons rfl rfl rfl rfl (V_move rfl rfl) (GR_cons rfl rfl rfl rfl (V_index rfl rfl rfl Tryd.underlying22 sz_45 (k := k) rfl hkl (h.isSome hkl)) (GR_cons rfl rfl rfl rfl ((by first | exact V_field rfl rfl fo_45_1 | exact V_fieldA rfl rfl fo_45_1)) (GR_cons rfl rfl rfl rfl (V_load rfl rfl ag_2 (h.at1 noM hkl rfl)) (GR_cons rfl rfl rfl rfl (V_add rfl rfl rfl (wrap_i64 (by omega))) (GR_nil)))))))) (fun y39 hy39 => ?_)
        refine GT_callX rfl rfl rfl rfl rfl rfl rfl rfl rn_18 (fun w m => C_put (many := 2) (H1 := [(b1, blk [.string t.name, .slice t.A t.data.length t.c] 24)]) (m.hs (HS.chunk HS.last)) hy39 (by rw [List.length_append, beR_len]; omega) (by decide)) (fun _ _ => GR_nil) (fun y47 hy47 => ?_)
        refine GT_ldv rfl rfl rfl rfl rfl (V_assign rfl rfl) (GR_nil) ?_
        refine GT_nil ?_
        refine GE_inBlock ?_
        refine GE_slots (L' := [(1, _), (4, _), (5, _)]) ⟨rfl, rfl, rfl, trivial⟩ ?_
        refine GE_plain (.st 0 (.st 1 (.ld 2 [] .nil))) rfl ?_
        refine GT_st rfl rfl rfl rfl (V_move rfl rfl) ?_
        refine GT_st rfl rfl rfl rfl (V_add rfl rfl rfl (wrap_i64 (by omega))) ?_
        refine GT_ldv rfl rfl rfl rfl rfl (V_assign rfl rfl) (GR_nil) ?_
        refine GT_nil ?_
        have eB := BK_succ (x := (t.name, t.data)) hkl; rw [be2, be2, ← eB] at hy47 ⊢; exact GE_to (ih (k + 1, y47) ⟨by dsimp only; omega, hy47⟩ (by dsimp only; omega)) ⟨rfl, rfl, rfl, trivial⟩ (HS.chunk HS.last)
      · have eA : BK (t.name, t.data) k = bod (t.name, t.data) := BK_all (by dsimp only; omega); rw [eA] at hO hbl ⊢; have hci := csIn_adl (l := bod (t.name, t.data)) csIn0; unfold csIn at hci; have hb4 : 0 ≤ (adl cs0 (bod (t.name, t.data))).1 ∧ (adl cs0 (bod (t.name, t.data))).1 < 65536 := (by omega)
        refine GE_exit rfl ?_
        refine GE_seq ?_
        refine GE_slots (L' := [(4, _)]) ⟨rfl, trivial⟩ ?_
        skip
        refine GE_plain (.st 0 (.st 1 (.ld 2 [] (.ld 3 [] (.st 4 (.st 5 .nil)))))) rfl ?_
        refine GT_st rfl rfl rfl rfl (V_move rfl rfl) ?_
        refine GT_st rfl rfl rfl rfl (V_move rfl rfl) ?_
        refine GT_call0 rfl rfl rfl rfl rfl rfl rfl rfl rn_19 (fun w hw => C_Sum (hO.rdH eU_len hw) (by omega)) (GR_nil) ?_
        refine GT_callX rfl rfl rfl rfl rfl rfl rfl rfl rn_18 (fun w m => C_put (many := 4) (H1 := []) (m.hs (HS.chunk HS.nil)) hO (by omega) (by decide)) (fun _ _ => GR_nil) (fun y51 hy51 => ?_)
        refine GT_st rfl rfl rfl rfl (V_assign rfl rfl) ?_
        refine GT_st rfl rfl rfl rfl (V_assign rfl rfl) ?_
        refine GT_nil ?_
        refine GE_ret Tryd.func7 ⟨_, _, rfl, rfl, rfl⟩ (fun w hw => ?_)
        first | (have e : pkL (t.name, t.data) = bod (t.name, t.data) ++ beR (65536 * (adl cs0 (bod (t.name, t.data))).2 + (adl cs0 (bod (t.name, t.data))).1) 4 4 := (by rw [be4 hb4]; exact if_pos h1); exact ⟨y51, by rw [e]; exact hy51, by rw [e, h1] <;> rfl, hw.hs (C := cx Tryd.prog hm 0 0 _ none' fun _ _ => True) HS.last⟩) | (have e : pkL (t.name, t.data) = [] := if_neg h1; exact ⟨(none, 0, []), by rw [e]; exact Own.nil, by rw [e]; rfl, hw.nil⟩)
    · exact ⟨Nat.zero_le _, by dsimp only; rw [BK0]; rw [be2] at hy23; exact hy23⟩
end Go.Proofs.YtdcjgjopmicidaaDoor
