/- Silences, peaks and energies; and the document's; walked. -/
import Derived.Test.YtdcjgjopmicidaaDoorTa4
import Derived.Test.YtdcjgjopmicidaaDoorSxI
namespace Go.Proofs.YtdcjgjopmicidaaDoor
open Go.Sx Go.Proofs Go.RowKit

section
variable {w : World} {A : Option Addr} {c : Nat} {s : List Sam}
theorem C_end {b10 b5 b9 c' : Nat} {A' : Option Addr} {I' H1 : Items} {out : List Iv} {fr least to : Int} {w0 : World} (m : SH w0 none' ((b10, blk [I fr] 3) :: (b5, blk [I least] 3) :: (b9, blk [.slice A' out.length c'] 41) :: (I' ++ H1)) w) (hO : Own 2 46 eIv out (.slice A' out.length c') I') (hf : 0 ≤ fr ∧ fr ≤ 5000) (ht : 0 ≤ to ∧ to ≤ 5000) (hl : out.length ≤ 5000) :
    Ret Tryd.prog 29 [I to, ptr b10 0, ptr b5 0, ptr b9 0].toArray w fun v w' => ∃ y : Option Addr × Nat × Items, Own 2 46 eIv (addIv least out fr to) (.slice y.1 (addIv least out fr to).length y.2.1) y.2.2 ∧ v = .tuple #[] ∧ SH w0 none' ((b10, blk [I (to + 1)] 3) :: (b5, blk [I least] 3) :: (b9, blk [.slice y.1 (addIv least out fr to).length y.2.1] 41) :: (y.2.2 ++ H1)) w' := by
  refine Ret_ofH (vs := [_, _, _, _]) hm none' Tryd.func29 rfl Tryd.ntmps29 rfl m ?_
  dsimp only [slotsOf]
  refine GE_seq ?_
  refine GE_seq ?_
  refine GE_plain (.st 0 (.st 1 (.st 2 (.st 3 (.st 4 .nil))))) rfl ?_
  refine GT_st rfl rfl rfl rfl (V_move rfl rfl) ?_
  refine GT_st rfl rfl rfl rfl (V_load rfl rfl ag_3 (CellAt.item rfl)) ?_
  refine GT_st rfl rfl rfl rfl (V_sub rfl rfl rfl (wrap_i64 (by omega))) ?_
  refine GT_st rfl rfl rfl rfl (V_load rfl rfl ag_3 (CellAt.item rfl)) ?_
  refine GT_st rfl rfl rfl rfl (V_geq rfl rfl rfl) ?_
  refine GT_nil ?_
  first | refine GE_condNot rfl (fun h1 => ?_) (fun h1 => ?_) | refine GE_cond rfl (fun h1 => ?_) (fun h1 => ?_) | refine GE_condNotB rfl (fun h1 => ?_) (fun h1 => ?_) | refine GE_condB rfl (fun h1 => ?_) (fun h1 => ?_)
  · skip
    refine GE_slots (L' := [(0, _), (1, _), (3, _)]) ⟨rfl, rfl, rfl, trivial⟩ ?_
    refine GE_plain (.st 0 (.st 1 (.st 2 (.st 3 (.ld 4 [] (.ld 5 [] (.ld 6 [] .nil))))))) rfl ?_
    refine GT_st rfl rfl rfl rfl (V_load rfl rfl ag_41 (CellAt.item rfl)) ?_
    refine GT_st rfl rfl rfl rfl (V_load rfl rfl ag_3 (CellAt.item rfl)) ?_
    refine GT_st rfl rfl rfl rfl (V_move rfl rfl) ?_
    refine GT_st rfl rfl rfl rfl (V_build (vs := [_, _]) rfl rfl zc_46 pl_46 sa_46 rfl) ?_
    refine GT_buildSlice (z := [_, _]) rfl rfl rfl rfl rfl Tryd.underlying41 zc_46 sz_46 (by decide) rfl rfl (fun _ => GR_nil) (fun b14 => ?_)
    refine GT_append (enc := eIv) (m := [(fr, to)]) rfl rfl rfl rfl rfl rfl rfl hO (fun w m => RdL.own' m eIv_len) Tryd.underlying41 zc_46 sz_46 ⟨rfl, by decide⟩ by_46 ⟨by simp only [List.length_singleton]; omega, by simp only [List.length_singleton]; omega⟩ eIv_len eIv_one (fun _ _ _ _ => GR_nil) (fun A2' c2' I2' hO2 => ?_)
    refine GT_store (vs := [_]) (l' := [_]) rfl rfl rfl rfl rfl rfl rfl sz_41 rfl rfl (Nat.le_of_ble_eq_true rfl) rfl (GR_nil) ?_
    refine GT_nil ?_
    refine GE_slots (L' := [(0, _), (1, _)]) ⟨rfl, rfl, trivial⟩ ?_
    refine GE_plain (.st 0 (.st 1 (.ld 2 [] .nil))) rfl ?_
    refine GT_st rfl rfl rfl rfl (V_move rfl rfl) ?_
    refine GT_st rfl rfl rfl rfl (V_add rfl rfl rfl (wrap_i64 (by omega))) ?_
    refine GT_store (vs := [_]) (l' := [_]) rfl rfl rfl rfl rfl rfl rfl sz_3 rfl rfl (Nat.le_of_ble_eq_true rfl) rfl (GR_nil) ?_
    refine GT_nil ?_
    refine GE_end Tryd.func29 rfl (fun w hw => ?_)
    first | (have e : addIv least out fr to = out ++ [(fr, to)] := if_pos (by omega); exact ⟨(A2', c2', I2'), by dsimp only; rw [e]; exact hO2, rfl, by rw [e]; exact hw.hs (C := cx Tryd.prog hm 0 0 w0 none' fun _ _ => True) (HS.cons rfl (HS.cons rfl (HS.cons rfl (HS.chunk HS.last))))⟩) | (have e : addIv least out fr to = out := if_neg (by omega); exact ⟨(A', c', I'), by dsimp only; rw [e]; exact hO, rfl, by rw [e]; exact hw⟩)
  · skip
    refine GE_skip ?_
    refine GE_slots (L' := [(0, _), (1, _)]) ⟨rfl, rfl, trivial⟩ ?_
    refine GE_plain (.st 0 (.st 1 (.ld 2 [] .nil))) rfl ?_
    refine GT_st rfl rfl rfl rfl (V_move rfl rfl) ?_
    refine GT_st rfl rfl rfl rfl (V_add rfl rfl rfl (wrap_i64 (by omega))) ?_
    refine GT_store (vs := [_]) (l' := [_]) rfl rfl rfl rfl rfl rfl rfl sz_3 rfl rfl (Nat.le_of_ble_eq_true rfl) rfl (GR_nil) ?_
    refine GT_nil ?_
    refine GE_end Tryd.func29 rfl (fun w hw => ?_)
    first | (have e : addIv least out fr to = out ++ [(fr, to)] := if_pos (by omega); exact ⟨(A2', c2', I2'), by dsimp only; rw [e]; exact hO2, rfl, by rw [e]; exact hw.hs (C := cx Tryd.prog hm 0 0 w0 none' fun _ _ => True) (HS.cons rfl (HS.cons rfl (HS.cons rfl (HS.chunk HS.last))))⟩) | (have e : addIv least out fr to = out := if_neg (by omega); exact ⟨(A', c', I'), by dsimp only; rw [e]; exact hO, rfl, by rw [e]; exact hw⟩)
theorem loud_iff {a : Int} {x : Sam} : a < max x.amts.l x.amts.r ↔ quiet a x = false := by
  rw [Bool.eq_false_iff, Ne, quiet_iff]
  unfold Sam.amts
  dsimp only
  omega
theorem bd_of {s : List Sam} (h : s.all Sam.ok = true) {k : Nat} (hk : k < s.length) : (s.getD k default).bd 32767 := by
  have := Sam.ok_iff.1 (all_getD.1 h k hk)
  unfold Sam.bd; omega
set_option maxRecDepth 10000 in
theorem C_Silences {a least : Int} (h : RdL w 2 eSam A s) : Con Tryd.prog 13 [.slice A s.length c, I a, I least] w (fun y : Option Addr × Nat × Items => Own 2 46 eIv (silL s a least) (.slice y.1 (silL s a least).length y.2.1) y.2.2)
    (fun y => .tuple #[.slice y.1 (silL s a least).length y.2.1, I (iErr s a least)]) (fun y => y.2.2) := by
  refine Ret_of (vs := [_, _, _]) hm none' Tryd.func13 rfl Tryd.ntmps13 rfl ?_
  dsimp only [slotsOf]
  refine GE_seq ?_
  refine GE_plain (.ld 0 [] (.st 1 (.st 2 .nil))) rfl ?_
  refine GT_box (z := [_]) rfl rfl rfl rfl rfl rfl rfl (fun _ => GR_nil) (fun b5 => ?_)
  refine GT_st rfl rfl rfl rfl (V_assign rfl rfl) ?_
  refine GT_st rfl rfl rfl rfl (V_assign rfl rfl) ?_
  refine GT_nil ?_
  refine GE_seq ?_
  refine GE_seq ?_
  refine GE_plain (.st 0 (.ld 1 [] (.st 2 .nil))) rfl ?_
  refine GT_st rfl rfl rfl rfl (V_move rfl rfl) ?_
  refine GT_call0 rfl rfl rfl rfl rfl rfl rfl rfl rn_27 (fun w hw => C_CheckSamples (h.sh hw)) (GR_nil) ?_
  refine GT_st rfl rfl rfl rfl (V_assign rfl rfl) ?_
  refine GT_nil ?_
  refine GE_seq ?_
  refine GE_slots (L' := [(0, _), (1, _), (5, _), (8, _)]) ⟨rfl, rfl, rfl, rfl, trivial⟩ ?_
  refine GE_plain (.st 0 (.st 1 .nil)) rfl ?_
  refine GT_st rfl rfl rfl rfl (V_move rfl rfl) ?_
  refine GT_st rfl rfl rfl rfl (V_neq rfl rfl rfl) ?_
  refine GT_nil ?_
  first | refine GE_condNot rfl (fun h1 => ?_) (fun h1 => ?_) | refine GE_cond rfl (fun h1 => ?_) (fun h1 => ?_) | refine GE_condNotB rfl (fun h1 => ?_) (fun h1 => ?_) | refine GE_condB rfl (fun h1 => ?_) (fun h1 => ?_)
  · skip
    refine GE_seq ?_
    refine GE_slots (L' := [(8, _)]) ⟨rfl, trivial⟩ ?_
    refine GE_plain (.st 0 (.st 1 (.st 2 .nil))) rfl ?_
    refine GT_st rfl rfl rfl rfl (V_move rfl rfl) ?_
    refine GT_st rfl rfl rfl rfl (V_assign rfl rfl) ?_
    refine GT_st rfl rfl rfl rfl (V_assign rfl rfl) ?_
    refine GT_nil ?_
    refine GE_ret Tryd.func13 ⟨_, _, rfl, rfl, rfl⟩ (fun w hw => ?_)
    have e : iErr s a least = sErr s := if_neg h1; have e2 : silL s a least = [] := if_neg (by rw [e]; exact h1); exact ⟨(none, 0, []), by dsimp only; rw [e2]; exact Own.nil, by dsimp only; rw [e, e2]; rfl, hw.nil⟩
  · obtain ⟨hl, hall⟩ := sErr_zero.1 h1
    refine GE_skip ?_
    refine GE_seq ?_
    refine GE_seq ?_
    refine GE_plain (.st 0 (.ld 1 [] (.st 2 (.st 3 (.st 4 (.st 5 (.st 6 (.st 7 (.st 8 (.st 9 (.st 10 .nil))))))))))) rfl ?_
    refine GT_st rfl rfl rfl rfl (V_move rfl rfl) ?_
    refine GT_call0 rfl rfl rfl rfl rfl rfl rfl rfl rn_28 (fun w hw => C_between) (GR_nil) ?_
    first | refine GT_st rfl rfl rfl rfl (V_not rfl rfl) ?_ | refine GT_st rfl rfl rfl rfl (V_notB rfl rfl) ?_
    refine GT_st rfl rfl rfl rfl (V_move rfl rfl) ?_
    first | refine GT_splitNot (d := 23) rfl (fun h2 => ?_) (fun h2 => ?_) | refine GT_split (d := 23) rfl (fun h2 => ?_) (fun h2 => ?_) | refine GT_splitNotB (d := 23) rfl (fun h2 => ?_) (fun h2 => ?_) | refine GT_splitB (d := 23) rfl (fun h2 => ?_) (fun h2 => ?_)
    · skip
      refine GT_skip rfl rfl rfl rfl rfl (by decide) rfl rfl ?_
      refine GT_skip rfl rfl rfl rfl rfl (by decide) rfl rfl ?_
      refine GT_st rfl rfl rfl rfl (V_pick_t rfl rfl rfl) ?_
      refine GT_st rfl rfl rfl rfl (V_move rfl rfl) ?_
      refine GT_skip rfl rfl rfl rfl rfl (by decide) rfl rfl ?_
      refine GT_skip rfl rfl rfl rfl rfl (by decide) rfl rfl ?_
      refine GT_st rfl rfl rfl rfl (V_pick_t rfl rfl rfl) ?_
      refine GT_nil ?_
      refine GE_cond_t rfl ?_
      refine GE_seq ?_
      refine GE_slots (L' := []) trivial ?_
      refine GE_plain (.st 0 (.st 1 .nil)) rfl ?_
      refine GT_st rfl rfl rfl rfl (V_assign rfl rfl) ?_
      refine GT_st rfl rfl rfl rfl (V_assign rfl rfl) ?_
      refine GT_nil ?_
      refine GE_ret Tryd.func13 ⟨_, _, rfl, rfl, rfl⟩ (fun w hw => ?_)
      first | exact ⟨(y.1, y.2.1, y.2.2), by dsimp only; rw [e2]; exact hy, by dsimp only; rw [e, e2]; rfl, hw.hs (C := cx Tryd.prog hm 0 0 _ none' fun _ _ => True) HS.last⟩ | (have e : iErr s a least = 3 := (by rw [iErr, if_pos h1, if_neg]; intro q; rw [Bool.and_eq_true] at q; have q2 := betw_iff.1 q.2; first | omega | (rw [q.1] at h2; exact absurd h2 (by decide))); have e2 : silL s a least = [] := if_neg (by omega); exact ⟨(none, 0, []), by dsimp only; rw [e2]; exact Own.nil, by dsimp only; rw [e, e2]; rfl, hw.nil⟩)
    · skip
      refine GT_st_g rfl rfl rfl rfl rfl rfl rfl (V_load rfl rfl ag_3 (CellAt.item rfl)) ?_
      refine GT_st_g rfl rfl rfl rfl rfl rfl rfl (V_lss rfl rfl rfl) ?_
      refine GT_st rfl rfl rfl rfl (V_pick_f rfl rfl rfl) ?_
      refine GT_st rfl rfl rfl rfl (V_move rfl rfl) ?_
      first | refine GT_splitNot (d := 27) rfl (fun h3 => ?_) (fun h3 => ?_) | refine GT_split (d := 27) rfl (fun h3 => ?_) (fun h3 => ?_) | refine GT_splitNotB (d := 27) rfl (fun h3 => ?_) (fun h3 => ?_) | refine GT_splitB (d := 27) rfl (fun h3 => ?_) (fun h3 => ?_)
      · skip
        refine GT_skip rfl rfl rfl rfl rfl (by decide) rfl rfl ?_
        refine GT_skip rfl rfl rfl rfl rfl (by decide) rfl rfl ?_
        refine GT_st rfl rfl rfl rfl (V_pick_t rfl rfl rfl) ?_
        refine GT_nil ?_
        refine GE_cond_t rfl ?_
        refine GE_seq ?_
        refine GE_slots (L' := []) trivial ?_
        refine GE_plain (.st 0 (.st 1 .nil)) rfl ?_
        refine GT_st rfl rfl rfl rfl (V_assign rfl rfl) ?_
        refine GT_st rfl rfl rfl rfl (V_assign rfl rfl) ?_
        refine GT_nil ?_
        refine GE_ret Tryd.func13 ⟨_, _, rfl, rfl, rfl⟩ (fun w hw => ?_)
        first | exact ⟨(y.1, y.2.1, y.2.2), by dsimp only; rw [e2]; exact hy, by dsimp only; rw [e, e2]; rfl, hw.hs (C := cx Tryd.prog hm 0 0 _ none' fun _ _ => True) HS.last⟩ | (have e : iErr s a least = 3 := (by rw [iErr, if_pos h1, if_neg]; intro q; rw [Bool.and_eq_true] at q; have q2 := betw_iff.1 q.2; first | omega | (rw [q.1] at h2; exact absurd h2 (by decide))); have e2 : silL s a least = [] := if_neg (by omega); exact ⟨(none, 0, []), by dsimp only; rw [e2]; exact Own.nil, by dsimp only; rw [e, e2]; rfl, hw.nil⟩)
      · skip
        refine GT_st_g rfl rfl rfl rfl rfl rfl rfl (V_load rfl rfl ag_3 (CellAt.item rfl)) ?_
        refine GT_st_g rfl rfl rfl rfl rfl rfl rfl (V_gtr rfl rfl rfl) ?_
        refine GT_st rfl rfl rfl rfl (V_pick_f rfl rfl rfl) ?_
        refine GT_nil ?_
        first | refine GE_condNot rfl (fun h4 => ?_) (fun h4 => ?_) | refine GE_cond rfl (fun h4 => ?_) (fun h4 => ?_) | refine GE_condNotB rfl (fun h4 => ?_) (fun h4 => ?_) | refine GE_condB rfl (fun h4 => ?_) (fun h4 => ?_)
        · skip
          refine GE_seq ?_
          refine GE_slots (L' := []) trivial ?_
          refine GE_plain (.st 0 (.st 1 .nil)) rfl ?_
          refine GT_st rfl rfl rfl rfl (V_assign rfl rfl) ?_
          refine GT_st rfl rfl rfl rfl (V_assign rfl rfl) ?_
          refine GT_nil ?_
          refine GE_ret Tryd.func13 ⟨_, _, rfl, rfl, rfl⟩ (fun w hw => ?_)
          first | exact ⟨(y.1, y.2.1, y.2.2), by dsimp only; rw [e2]; exact hy, by dsimp only; rw [e, e2]; rfl, hw.hs (C := cx Tryd.prog hm 0 0 _ none' fun _ _ => True) HS.last⟩ | (have e : iErr s a least = 3 := (by rw [iErr, if_pos h1, if_neg]; intro q; rw [Bool.and_eq_true] at q; have q2 := betw_iff.1 q.2; first | omega | (rw [q.1] at h2; exact absurd h2 (by decide))); have e2 : silL s a least = [] := if_neg (by omega); exact ⟨(none, 0, []), by dsimp only; rw [e2]; exact Own.nil, by dsimp only; rw [e, e2]; rfl, hw.nil⟩)
        · have e : iErr s a least = 0 := (by rw [iErr, if_pos h1, if_pos]; rw [Bool.and_eq_true]; exact ⟨by simpa using h2, betw_iff.2 (by omega)⟩); have e2 : silL s a least = sil s a least := if_pos e
          refine GE_skip ?_
          refine GE_seq ?_
          refine GE_slots (L' := [(0, _), (1, _), (5, _)]) ⟨rfl, rfl, rfl, trivial⟩ ?_
          refine GE_plain (.ld 0 [] .nil) rfl ?_
          refine GT_alloc rfl rfl rfl rfl rfl zc_41 (fun _ => GR_nil) (fun b9 => ?_)
          refine GT_nil ?_
          refine GE_seq ?_
          refine GE_plain (.ld 0 [] (.ld 1 [] .nil)) rfl ?_
          refine GT_alloc rfl rfl rfl rfl rfl zc_3 (fun _ => GR_nil) (fun b10 => ?_)
          refine GT_store (vs := [_]) (l' := [_]) rfl rfl rfl rfl rfl rfl rfl sz_3 rfl rfl (Nat.le_of_ble_eq_true rfl) rfl (GR_nil) ?_
          refine GT_nil ?_
          refine GE_seq ?_
          refine GE_plain (.st 0 (.st 1 .nil)) rfl ?_
          refine GT_st rfl rfl rfl rfl (V_makeFunc rfl rfl rfl) ?_
          refine GT_st rfl rfl rfl rfl (V_assign rfl rfl) ?_
          refine GT_nil ?_
          refine GE_seq ?_
          refine GE_seq ?_
          refine GE_plain (.st 0 (.st 1 (.st 2 .nil))) rfl ?_
          refine GT_st rfl rfl rfl rfl (V_move rfl rfl) ?_
          refine GT_st rfl rfl rfl rfl (V_len rfl Tryd.underlying22 rfl) ?_
          refine GT_st rfl rfl rfl rfl (V_move rfl rfl) ?_
          refine GT_nil ?_
          refine GE_block ?_
          refine GE_to (GE_loop (ι := Nat × Option Addr × Nat × Items) (fun x => s.length - x.1) (fun x => [(0, .slice A s.length c), (1, I a), (9, ptr b9 0), (11, .func (.func 29) #[] #[ptr b10 0, ptr b5 0, ptr b9 0]), (32, .slice A s.length c), (33, I s.length), (34, I x.1)]) (fun x => (b10, blk [I (silN s a least x.1).2] 3) :: (b5, blk [I least] 3) :: (b9, blk [.slice x.2.1 (silN s a least x.1).1.length x.2.2.1] 41) :: x.2.2.2) (fun x => x.1 ≤ s.length ∧ Own 2 46 eIv (silN s a least x.1).1 (.slice x.2.1 (silN s a least x.1).1.length x.2.2.1) x.2.2.2) ?_ (0, none, 0, []) ?_) ⟨rfl, rfl, rfl, rfl, rfl, rfl, rfl, trivial⟩ (HS.cons rfl (HS.cons rfl (HS.cons rfl HS.nil)))
          · rintro ⟨k, A', c', I'⟩ ⟨hk, hO⟩ ih; dsimp only at hk hO ih ⊢; have hsl := silN_len (s := s) (a := a) (least := least) k; have hse := silN_le (s := s) (a := a) (least := least) k
            refine GE_seq ?_
            refine GE_plain (.st 0 .nil) rfl ?_
            refine GT_st rfl rfl rfl rfl (V_lss rfl rfl rfl) ?_
            refine GT_nil ?_
            refine GE_seq ?_
            first | refine GE_condNot rfl (fun h5 => ?_) (fun h5 => ?_) | refine GE_cond rfl (fun h5 => ?_) (fun h5 => ?_) | refine GE_condNotB rfl (fun h5 => ?_) (fun h5 => ?_) | refine GE_condB rfl (fun h5 => ?_) (fun h5 => ?_)
            · have hkl : k < s.length := (by omega)
              refine GE_skip ?_
              refine GE_seq ?_
              refine GE_block ?_
              refine GE_seq ?_
              refine GE_plain (.st 0 (.st 1 (.st 2 (.ld 3 [] (.st 4 (.ld 5 [] .nil)))))) rfl ?_
              refine GT_st rfl rfl rfl rfl (V_move rfl rfl) ?_
              refine GT_st rfl rfl rfl rfl (V_index rfl rfl rfl Tryd.underlying22 sz_45 (k := k) rfl hkl (h.isSome hkl)) ?_
              refine GT_st rfl rfl rfl rfl (V_loadN (vs := [_, _]) rfl rfl ag_45 sz_45 rfl (h.ats noM hkl)) ?_
              refine GT_alloc rfl rfl rfl rfl rfl zc_45 (fun _ => GR_nil) (fun b13 => ?_)
              refine GT_st rfl rfl rfl rfl (V_assign rfl rfl) ?_
              refine GT_store (vs := [_, _]) (l' := [_, _]) rfl rfl rfl rfl rfl rfl rfl sz_45 rfl rfl (Nat.le_of_ble_eq_true rfl) rfl (GR_nil) ?_
              refine GT_nil ?_
              refine GE_seq ?_
              refine GE_slots (L' := [(0, _), (1, _), (9, _), (11, _), (12, _), (13, _), (32, _), (33, _), (34, _)]) ⟨rfl, rfl, rfl, rfl, rfl, rfl, rfl, rfl, rfl, trivial⟩ ?_
              refine GE_plain (.st 0 (.ld 1 [] (.ld 2 [] (.ld 3 [] .nil)))) rfl ?_
              refine GT_st rfl rfl rfl rfl (V_loadN (vs := [_, _]) rfl rfl ag_45 sz_45 rfl (CellsAt.item rfl)) ?_
              refine GT_call0 rfl rfl rfl rfl rfl rfl rfl rfl rn_30 (fun w hw => C_amounts (a := s.getD k default) (Sam.bd.mono (bd_of hall hkl) (by decide))) (GR_nil) ?_
              refine GT_alloc rfl rfl rfl rfl rfl zc_45 (fun _ => GR_nil) (fun b14 => ?_)
              refine GT_store (vs := [_, _]) (l' := [_, _]) rfl rfl rfl rfl rfl rfl rfl sz_45 rfl rfl (Nat.le_of_ble_eq_true rfl) rfl (GR_nil) ?_
              refine GT_nil ?_
              refine GE_seq ?_
              refine GE_plain (.st 0 (.st 1 (.st 2 (.st 3 (.st 4 (.st 5 (.st 6 .nil))))))) rfl ?_
              first | refine GT_st rfl rfl rfl rfl (V_field rfl rfl fo_45_0) ?_ | refine GT_st rfl rfl rfl rfl (V_fieldA rfl rfl fo_45_0) ?_
              refine GT_st rfl rfl rfl rfl (V_load rfl rfl ag_2 (CellAt.item rfl)) ?_
              first | refine GT_st rfl rfl rfl rfl (V_field rfl rfl fo_45_1) ?_ | refine GT_st rfl rfl rfl rfl (V_fieldA rfl rfl fo_45_1) ?_
              refine GT_st rfl rfl rfl rfl (V_load rfl rfl ag_2 (CellAt.item rfl)) ?_
              refine GT_st rfl rfl rfl rfl (V_max rfl rfl rfl) ?_
              refine GT_st rfl rfl rfl rfl (V_move rfl rfl) ?_
              refine GT_st rfl rfl rfl rfl (V_gtr rfl rfl rfl) ?_
              refine GT_nil ?_
              first | refine GE_condNot rfl (fun h6 => ?_) (fun h6 => ?_) | refine GE_cond rfl (fun h6 => ?_) (fun h6 => ?_) | refine GE_condNotB rfl (fun h6 => ?_) (fun h6 => ?_) | refine GE_condB rfl (fun h6 => ?_) (fun h6 => ?_)
              · have hq : quiet a (s.getD k default) = false := loud_iff.1 h6
                refine GE_slots (L' := [(0, _), (1, _), (9, _), (11, _), (12, _), (32, _), (33, _), (34, _)]) ⟨rfl, rfl, rfl, rfl, rfl, rfl, rfl, rfl, trivial⟩ ?_
                refine GE_plain (.st 0 (.st 1 (.ld 2 [] .nil))) rfl ?_
                refine GT_st rfl rfl rfl rfl (V_move rfl rfl) ?_
                refine GT_st rfl rfl rfl rfl (V_move rfl rfl) ?_
                refine GT_callX rfl rfl rfl rfl rfl rfl rfl rfl rn_29 (fun w m => C_end (H1 := []) (m.hs (HS.cons rfl (HS.cons rfl (HS.cons rfl (HS.chunk HS.nil))))) hO ⟨by omega, by omega⟩ ⟨by omega, by omega⟩ (by omega)) (fun _ _ => GR_nil) (fun y hy => ?_)
                refine GT_nil ?_
                refine GE_inBlock ?_
                refine GE_slots (L' := [(0, _), (1, _), (9, _), (11, _), (32, _), (33, _), (34, _)]) ⟨rfl, rfl, rfl, rfl, rfl, rfl, rfl, trivial⟩ ?_
                refine GE_plain (.st 0 (.ld 1 [] .nil)) rfl ?_
                refine GT_st rfl rfl rfl rfl (V_add rfl rfl rfl (wrap_i64 (by omega))) ?_
                refine GT_ldv rfl rfl rfl rfl rfl (V_move rfl rfl) (GR_nil) ?_
                refine GT_nil ?_
                first
                  | exact GE_to (ih (k + 1, y.1, y.2.1, y.2.2) ⟨by dsimp only; omega, by dsimp only; rw [silN_l hq]; exact hy⟩ (by dsimp only; omega)) ⟨rfl, rfl, rfl, rfl, rfl, rfl, rfl, trivial⟩ (HS.cons (by rw [silN_l hq]; rfl) (HS.cons rfl (HS.cons (by rw [silN_l hq]) HS.last)))
                  | exact GE_to (ih (k + 1, A', c', I') ⟨by dsimp only; omega, by dsimp only; rw [silN_q hq]; exact hO⟩ (by dsimp only; omega)) ⟨rfl, rfl, rfl, rfl, rfl, rfl, rfl, trivial⟩ (HS.cons (by rw [silN_q hq]) (HS.cons rfl (HS.cons (by rw [silN_q hq]) HS.last)))
              · have hq : quiet a (s.getD k default) = true := (by rw [← Bool.not_eq_false]; exact fun e => h6 (loud_iff.2 e))
                refine GE_skip ?_
                refine GE_inBlock ?_
                refine GE_slots (L' := [(0, _), (1, _), (9, _), (11, _), (32, _), (33, _), (34, _)]) ⟨rfl, rfl, rfl, rfl, rfl, rfl, rfl, trivial⟩ ?_
                refine GE_plain (.st 0 (.ld 1 [] .nil)) rfl ?_
                refine GT_st rfl rfl rfl rfl (V_add rfl rfl rfl (wrap_i64 (by omega))) ?_
                refine GT_ldv rfl rfl rfl rfl rfl (V_move rfl rfl) (GR_nil) ?_
                refine GT_nil ?_
                first
                  | exact GE_to (ih (k + 1, y.1, y.2.1, y.2.2) ⟨by dsimp only; omega, by dsimp only; rw [silN_l hq]; exact hy⟩ (by dsimp only; omega)) ⟨rfl, rfl, rfl, rfl, rfl, rfl, rfl, trivial⟩ (HS.cons (by rw [silN_l hq]; rfl) (HS.cons rfl (HS.cons (by rw [silN_l hq]) HS.last)))
                  | exact GE_to (ih (k + 1, A', c', I') ⟨by dsimp only; omega, by dsimp only; rw [silN_q hq]; exact hO⟩ (by dsimp only; omega)) ⟨rfl, rfl, rfl, rfl, rfl, rfl, rfl, trivial⟩ (HS.cons (by rw [silN_q hq]) (HS.cons rfl (HS.cons (by rw [silN_q hq]) HS.last)))
            · obtain rfl : k = s.length := (by omega)
              refine GE_exit rfl ?_
              refine GE_seq ?_
              refine GE_slots (L' := [(0, _), (9, _), (11, _)]) ⟨rfl, rfl, rfl, trivial⟩ ?_
              refine GE_plain (.st 0 (.st 1 (.st 2 (.ld 3 [] .nil)))) rfl ?_
              refine GT_st rfl rfl rfl rfl (V_move rfl rfl) ?_
              refine GT_st rfl rfl rfl rfl (V_move rfl rfl) ?_
              refine GT_st rfl rfl rfl rfl (V_len rfl Tryd.underlying22 rfl) ?_
              refine GT_callX rfl rfl rfl rfl rfl rfl rfl rfl rn_29 (fun w m => C_end (H1 := []) (m.hs (HS.cons rfl (HS.cons rfl (HS.cons rfl (HS.chunk HS.nil))))) hO ⟨by omega, by omega⟩ ⟨by omega, by omega⟩ (by omega)) (fun _ _ => GR_nil) (fun y hy => ?_)
              refine GT_nil ?_
              refine GE_seq ?_
              refine GE_slots (L' := [(9, _)]) ⟨rfl, trivial⟩ ?_
              refine GE_plain (.st 0 (.st 1 (.st 2 .nil))) rfl ?_
              refine GT_st rfl rfl rfl rfl (V_load rfl rfl ag_41 (CellAt.item rfl)) ?_
              refine GT_st rfl rfl rfl rfl (V_assign rfl rfl) ?_
              refine GT_st rfl rfl rfl rfl (V_assign rfl rfl) ?_
              refine GT_nil ?_
              refine GE_ret Tryd.func13 ⟨_, _, rfl, rfl, rfl⟩ (fun w hw => ?_)
              first | exact ⟨(y.1, y.2.1, y.2.2), by dsimp only; rw [e2]; exact hy, by dsimp only; rw [e, e2]; rfl, hw.hs (C := cx Tryd.prog hm 0 0 _ none' fun _ _ => True) HS.last⟩ | (have e : iErr s a least = 3 := (by rw [iErr, if_pos h1, if_neg]; intro q; rw [Bool.and_eq_true] at q; have q2 := betw_iff.1 q.2; first | omega | (rw [q.1] at h2; exact absurd h2 (by decide))); have e2 : silL s a least = [] := if_neg (by omega); exact ⟨(none, 0, []), by dsimp only; rw [e2]; exact Own.nil, by dsimp only; rw [e, e2]; rfl, hw.nil⟩)
          · exact ⟨Nat.zero_le _, Own.nil⟩
end
end Go.Proofs.YtdcjgjopmicidaaDoor
