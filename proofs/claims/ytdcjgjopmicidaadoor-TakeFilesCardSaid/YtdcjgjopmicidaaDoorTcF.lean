/- The take of a file: the program's Unpack, walked. -/
import Derived.Test.YtdcjgjopmicidaaDoorTcE
namespace Go.Proofs.YtdcjgjopmicidaaDoor
open Go.Sx Go.Proofs Go.RowKit

def p1b (b : List UInt8) : List UInt8 × List UInt8 := tk1 (tk1 b 3).2 ((tk1 b 3).1.getD 2 default).toNat
theorem par1_eq (b : List UInt8) : par1 b = (stz (p1b b).1, dat (tw (p1b b).2).toNat (tr (p1b b).2)) := rfl
theorem dat_step {n : Nat} {r : List UInt8} (h0 : 0 < n) (hr : r ≠ []) : dat n r = ⟨tw r - 32768, tw (tr r) - 32768⟩ :: dat (n - 1) (tr (tr r)) := by
  obtain ⟨m, rfl⟩ := Nat.exists_eq_succ_of_ne_zero (show n ≠ 0 by omega)
  show dat (m + 1) r = _
  rw [dat, if_neg hr]; rfl
theorem dat_nil (n : Nat) : dat n [] = [] := by
  cases n
  · rfl
  · rw [dat, if_pos rfl]
theorem tr_le (r : List UInt8) : (tr r).length ≤ r.length := tk1_le r 2

section
variable {w : World} {A : Option Addr} {c : Nat} {b : List UInt8}
set_option maxRecDepth 20000 in
set_option maxHeartbeats 2000000 in
theorem C_Unpack (h : RdL w 1 eU A b) (hc : b.length ≤ c) : Con Tryd.prog 8 [.slice A b.length c] w (fun y : Option Addr × Nat × Items => Own 2 45 eSam (un1 b).1.2 (.slice y.1 (un1 b).1.2.length y.2.1) y.2.2)
    (fun y => .tuple #[.agg #[.string (un1 b).1.1, .slice y.1 (un1 b).1.2.length y.2.1], I (un1 b).2]) (fun y => y.2.2) := by
  have hl3 := tk1_len b 3
  have hx8 := ((tk1 b 3).1.getD 2 default).toNat_lt
  have hr1 := tk1_le b 3
  have hr2 : (p1b b).2.length ≤ (tk1 b 3).2.length := tk1_le _ _
  have hnl : (p1b b).1.length = ((tk1 b 3).1.getD 2 default).toNat := tk1_len _ _
  have hr3 := tr_le (p1b b).2
  have hNb := tw_bd (p1b b).2
  refine Ret_of (vs := [_]) hm none' Tryd.func8 rfl Tryd.ntmps8 rfl ?_
  dsimp only [slotsOf]
  refine GE_seq ?_
  refine GE_plain (.ld 0 [] (.st 1 .nil)) rfl ?_
  refine GT_alloc rfl rfl rfl rfl rfl zc_24 (fun _ => GR_nil) (fun b2 => ?_)
  refine GT_st rfl rfl rfl rfl (V_assign rfl rfl) ?_
  refine GT_nil ?_
  refine GE_seq ?_
  refine GE_seq ?_
  refine GE_plain (.st 0 (.st 1 (.st 2 .nil))) rfl ?_
  refine GT_st rfl rfl rfl rfl (V_move rfl rfl) ?_
  refine GT_st rfl rfl rfl rfl (V_len rfl Tryd.underlying25 rfl) ?_
  refine GT_st rfl rfl rfl rfl (V_gtr rfl rfl rfl) ?_
  refine GT_nil ?_
  first | refine GE_condNot rfl (fun h1 => ?_) (fun h1 => ?_) | refine GE_cond rfl (fun h1 => ?_) (fun h1 => ?_) | refine GE_condNotB rfl (fun h1 => ?_) (fun h1 => ?_) | refine GE_condB rfl (fun h1 => ?_) (fun h1 => ?_)
  · skip
    refine GE_seq ?_
    refine GE_slots (L' := [(2, _)]) ⟨rfl, trivial⟩ ?_
    refine GE_plain (.st 0 (.ld 1 [] (.st 2 .nil))) rfl ?_
    refine GT_st rfl rfl rfl rfl (V_build (vs := [_, _]) rfl rfl zc_24 pl_24 sa_24 rfl) ?_
    refine GT_store (vs := [_, _]) (l' := [_, _]) rfl rfl rfl rfl rfl rfl rfl sz_24 rfl rfl (Nat.le_of_ble_eq_true rfl) rfl (GR_nil) ?_
    refine GT_st rfl rfl rfl rfl (V_assign rfl rfl) ?_
    refine GT_nil ?_
    refine GE_ret Tryd.func8 ⟨_, _, ⟨_, rfl, fun w m => run_loadVar_agg (vs := [_, _]) ag_24 sz_24 rfl (fun j v hj => CellsAt.item rfl j v hj w m)⟩, rfl, rfl⟩ (fun w hw => ?_)
    have e : un1 b = (td0, 7) := if_pos (by omega); exact ⟨(none, 0, []), by rw [e]; exact Own.nil, by rw [e] <;> rfl, hw.nil⟩
  · have eU1 : un1 b = unp (par1 b) b := if_neg (by omega)
    refine GE_skip ?_
    refine GE_seq ?_
    refine GE_slots (L' := [(0, _), (2, _)]) ⟨rfl, rfl, trivial⟩ ?_
    refine GE_plain (.st 0 (.ld 1 [] (.ld 2 [] .nil))) rfl ?_
    refine GT_st rfl rfl rfl rfl (V_move rfl rfl) ?_
    refine GT_alloc rfl rfl rfl rfl rfl zc_25 (fun _ => GR_nil) (fun b4 => ?_)
    refine GT_store (vs := [_]) (l' := [_]) rfl rfl rfl rfl rfl rfl rfl sz_25 rfl rfl (Nat.le_of_ble_eq_true rfl) rfl (GR_nil) ?_
    refine GT_nil ?_
    refine GE_seq ?_
    refine GE_plain (.st 0 (.ld 1 [] (.ld 2 [] .nil))) rfl ?_
    refine GT_st rfl rfl rfl rfl (V_makeFunc rfl rfl rfl) ?_
    refine GT_alloc rfl rfl rfl rfl rfl zc_59 (fun _ => GR_nil) (fun b5 => ?_)
    refine GT_store (vs := [_]) (l' := [_]) rfl rfl rfl rfl rfl rfl rfl sz_59 rfl rfl (Nat.le_of_ble_eq_true rfl) rfl (GR_nil) ?_
    refine GT_nil ?_
    refine GE_seq ?_
    refine GE_plain (.st 0 (.st 1 .nil)) rfl ?_
    refine GT_st rfl rfl rfl rfl (V_makeFunc rfl rfl rfl) ?_
    refine GT_st rfl rfl rfl rfl (V_assign rfl rfl) ?_
    refine GT_nil ?_
    refine GE_seq ?_
    refine GE_plain (.ld 0 [] .nil) rfl ?_
    refine GT_alloc rfl rfl rfl rfl rfl zc_24 (fun _ => GR_nil) (fun b7 => ?_)
    refine GT_nil ?_
    refine GE_seq ?_
    refine GE_plain (.st 0 (.ld 1 [] (.st 2 .nil))) rfl ?_
    refine GT_st rfl rfl rfl rfl (V_load rfl rfl ag_59 (CellAt.item rfl)) ?_
    refine GT_callX rfl rfl rfl rfl rfl rfl rfl rfl rn_20 (fun w m => C_take (n := 3) (m.hs (HS.cons rfl HS.all)) h hc (by decide) (by omega)) (fun _ _ => GR_nil) (fun y20 hy20 => ?_)
    refine GT_st rfl rfl rfl rfl (V_assign rfl rfl) ?_
    refine GT_nil ?_
    refine GE_seq ?_
    refine GE_slots (L' := [(0, _), (2, _), (4, _), (5, _), (6, _), (7, _), (8, _)]) ⟨rfl, rfl, rfl, rfl, rfl, rfl, rfl, trivial⟩ ?_
    refine GE_drawn (.st 0 (.st 1 (.st 2 (.st 3 (.st 4 (.ld 5 [] (.ld 6 [] (.st 7 (.ld 8 [] .nil))))))))) [5, 6, 8] (by decide +kernel) ?_
    refine GT_st rfl rfl rfl rfl (V_load rfl rfl ag_59 (CellAt.item rfl)) ?_
    refine GT_st rfl rfl rfl rfl (V_move rfl rfl) ?_
    refine GT_st rfl rfl rfl rfl (V_index (k := 2) rfl rfl rfl Tryd.underlying25 sz_5 rfl (by rw [hl3]; decide) (hy20.some (by decide))) ?_
    refine GT_st rfl rfl rfl rfl (V_load rfl rfl ag_5 (CellAt.rdH0 (fun w m => hy20.rd w (m.hs HS.last)) (by rw [hl3]; decide) rfl)) ?_
    refine GT_st rfl rfl rfl rfl (V_convII rfl rfl (by rw [Tryd.underlying5]; rfl) Tryd.underlying3 (wrap_i64 (by omega))) ?_
    refine GT_callX rfl rfl rfl rfl rfl rfl rfl rfl rn_20 (fun w m => C_take (n := ((tk1 b 3).1.getD 2 default).toNat) (m.hs (HS.cons rfl HS.all)) hy20.rest hy20.cap (by omega) (by omega)) (fun _ _ => GR_nil) (fun y26 hy26 => ?_)
    refine GT_ldv rfl rfl rfl rfl rfl (V_bytesStr rfl rfl Tryd.underlying25 Tryd.underlying5 Tryd.underlying9 (fun w m => hy26.rd w (m.hs HS.last))) (GR_nil) ?_
    first | refine GT_st rfl rfl rfl rfl (V_field rfl rfl fo_24_0) ?_ | refine GT_st rfl rfl rfl rfl (V_fieldA rfl rfl fo_24_0) ?_
    refine GT_store (vs := [_]) (l' := [_, _]) rfl rfl rfl rfl rfl rfl rfl sz_9 rfl rfl (Nat.le_of_ble_eq_true rfl) rfl (GR_nil) ?_
    refine GT_nil ?_
    refine GE_seq ?_
    refine GE_seq ?_
    refine GE_slots (L' := [(0, _), (2, _), (4, _), (6, _), (7, _)]) ⟨rfl, rfl, rfl, rfl, rfl, trivial⟩ ?_
    refine GE_plain (.st 0 (.ld 1 [] (.st 2 .nil))) rfl ?_
    refine GT_st rfl rfl rfl rfl (V_move rfl rfl) ?_
    refine GT_callX rfl rfl rfl rfl rfl rfl rfl rfl rn_21 (fun w m => C_tw (r := (p1b b).2) (m.hs (HS.cons rfl (HS.cons rfl HS.all))) hy26.rest hy26.cap (by omega)) (fun _ _ => GR_nil) (fun y30 hy30 => ?_)
    refine GT_st rfl rfl rfl rfl (V_move rfl rfl) ?_
    refine GT_nil ?_
    refine GE_block ?_
    refine GE_to (GE_loop (ι := Nat × List Sam × (Option Addr × Nat × Items) × List UInt8 × (Option Addr × Nat)) (fun z => (tw (p1b b).2).toNat - z.1) (fun z => [(0, .slice A b.length c), (2, ptr b2 0), (4, ptr b4 0), (6, .func (.func 21) #[] #[ptr b5 0]), (7, ptr b7 0), (30, I (tw (p1b b).2)), (31, I z.1)]) (fun z => (b2, blk [.string .empty, .slice none 0 0] 24) :: (b5, blk [.func (.func 20) #[] #[ptr b4 0]] 59) :: (b4, blk [.slice z.2.2.2.2.1 z.2.2.2.1.length z.2.2.2.2.2] 25) :: (b7, blk [.string (stz (p1b b).1), .slice z.2.2.1.1 z.2.1.length z.2.2.1.2.1] 24) :: z.2.2.1.2.2) (fun z => (z.1 ≤ (tw (p1b b).2).toNat ∧ z.2.1.length ≤ z.1) ∧ Own 2 45 eSam z.2.1 (.slice z.2.2.1.1 z.2.1.length z.2.2.1.2.1) z.2.2.1.2.2 ∧ RdL w 1 eU z.2.2.2.2.1 z.2.2.2.1 ∧ (z.2.2.2.1.length ≤ z.2.2.2.2.2 ∧ z.2.2.2.1.length ≤ 65536) ∧ z.2.1 ++ dat ((tw (p1b b).2).toNat - z.1) z.2.2.2.1 = dat (tw (p1b b).2).toNat (tr (p1b b).2)) ?_ (0, [], (none, 0, []), tr (p1b b).2, y30) ?_) ⟨rfl, rfl, rfl, rfl, rfl, rfl, rfl, trivial⟩ (HS.cons rfl (HS.cons rfl (HS.cons rfl (HS.cons rfl HS.nil))))
    · rintro ⟨k, d, y, r, a, e⟩ ⟨⟨hk, hdl⟩, hO, hr, ⟨hrc, hrl⟩, hd⟩ ih; dsimp only at hk hdl hO hr hrc hrl hd ih ⊢; have hb1 := tw_bd r; have hb2 := tw_bd (tr r); have hl1 := tr_le r; have hl2 := tr_le (tr r)
      refine GE_seq ?_
      refine GE_plain (.st 0 .nil) rfl ?_
      refine GT_st rfl rfl rfl rfl (V_lss rfl rfl rfl) ?_
      refine GT_nil ?_
      refine GE_seq ?_
      first | refine GE_condNot rfl (fun h2 => ?_) (fun h2 => ?_) | refine GE_cond rfl (fun h2 => ?_) (fun h2 => ?_) | refine GE_condNotB rfl (fun h2 => ?_) (fun h2 => ?_) | refine GE_condB rfl (fun h2 => ?_) (fun h2 => ?_)
      · skip
        refine GE_skip ?_
        refine GE_seq ?_
        refine GE_block ?_
        refine GE_seq ?_
        refine GE_seq ?_
        refine GE_plain (.st 0 (.st 1 (.st 2 .nil))) rfl ?_
        refine GT_st rfl rfl rfl rfl (V_load rfl rfl ag_25 (CellAt.item rfl)) ?_
        refine GT_st rfl rfl rfl rfl (V_len rfl Tryd.underlying25 rfl) ?_
        refine GT_st rfl rfl rfl rfl (V_eql rfl rfl rfl) ?_
        refine GT_nil ?_
        first | refine GE_condNot rfl (fun h3 => ?_) (fun h3 => ?_) | refine GE_cond rfl (fun h3 => ?_) (fun h3 => ?_) | refine GE_condNotB rfl (fun h3 => ?_) (fun h3 => ?_) | refine GE_condB rfl (fun h3 => ?_) (fun h3 => ?_)
        · have hd9 : d = dat (tw (p1b b).2).toNat (tr (p1b b).2) := (by rw [show r = [] from List.eq_nil_of_length_eq_zero (by omega), dat_nil, List.append_nil] at hd; exact hd)
          refine GE_exit rfl ?_
          refine GE_seq ?_
          refine GE_seq ?_
          refine GE_slots (L' := [(0, _), (2, _), (7, _)]) ⟨rfl, rfl, rfl, trivial⟩ ?_
          have hp : par1 b = (stz (p1b b).1, d) := (by rw [par1_eq, hd9])
          refine GE_plain (.st 0 (.ld 1 [] (.st 2 (.st 3 (.st 4 (.st 5 (.st 6 .nil))))))) rfl ?_
          refine GT_st rfl rfl rfl rfl (V_loadN (vs := [_, _]) rfl rfl ag_24 sz_24 rfl (CellsAt.item rfl)) ?_
          refine GT_call rfl rfl rfl rfl rfl rfl rfl rfl rn_6 (fun w hw => C_Pack (t := ⟨stz (p1b b).1, y.1, y.2.1, d⟩) (hO.rdH eSam_len hw) (by show (stz (p1b b).1).size ≤ maxLen; rw [← byz_len, byz_stz, hnl]; unfold maxLen; omega)) (fun _ _ => GR_nil) (fun u hu => ?_)
          refine GT_st rfl rfl rfl rfl (V_move rfl rfl) ?_
          refine GT_st rfl rfl rfl rfl (V_extract rfl rfl rfl) ?_
          refine GT_st rfl rfl rfl rfl (V_extract rfl rfl rfl) ?_
          refine GT_st rfl rfl rfl rfl (V_assign rfl rfl) ?_
          refine GT_st rfl rfl rfl rfl (V_assign rfl rfl) ?_
          refine GT_nil ?_
          refine GE_seq ?_
          refine GE_slots (L' := [(0, _), (2, _), (7, _), (10, _), (11, _)]) ⟨rfl, rfl, rfl, rfl, rfl, trivial⟩ ?_
          refine GE_plain (.st 0 (.st 1 (.st 2 (.st 3 (.ld 4 [] (.st 5 (.ld 6 [] (.st 7 (.st 8 .nil))))))))) rfl ?_
          refine GT_st rfl rfl rfl rfl (V_move rfl rfl) ?_
          refine GT_st rfl rfl rfl rfl (V_neq rfl rfl rfl) ?_
          refine GT_st rfl rfl rfl rfl (V_move rfl rfl) ?_
          first | refine GT_splitNot (d := 57) rfl (fun q1 => ?_) (fun q1 => ?_) | refine GT_split (d := 57) rfl (fun q1 => ?_) (fun q1 => ?_) | refine GT_splitNotB (d := 57) rfl (fun q1 => ?_) (fun q1 => ?_) | refine GT_splitB (d := 57) rfl (fun q1 => ?_) (fun q1 => ?_)
          · skip
            refine GT_skip rfl rfl rfl rfl rfl (by decide) rfl rfl ?_
            refine GT_skip_ld rfl rfl rfl rfl rfl (by decide) rfl rfl rfl (GR_nil) ?_
            refine GT_skip rfl rfl rfl rfl rfl (by decide) rfl rfl ?_
            refine GT_skip_ld rfl rfl rfl rfl rfl (by decide) rfl rfl rfl (GR_nil) ?_
            refine GT_skip rfl rfl rfl rfl rfl (by decide) rfl rfl ?_
            refine GT_st rfl rfl rfl rfl (V_pick_t rfl rfl rfl) ?_
            refine GT_nil ?_
            refine GE_cond_t rfl ?_
            refine GE_seq ?_
            refine GE_slots (L' := [(2, _)]) ⟨rfl, trivial⟩ ?_
            refine GE_plain (.st 0 (.ld 1 [] (.st 2 .nil))) rfl ?_
            refine GT_st rfl rfl rfl rfl (V_build (vs := [_, _]) rfl rfl zc_24 pl_24 sa_24 rfl) ?_
            refine GT_store (vs := [_, _]) (l' := [_, _]) rfl rfl rfl rfl rfl rfl rfl sz_24 rfl rfl (Nat.le_of_ble_eq_true rfl) rfl (GR_nil) ?_
            refine GT_st rfl rfl rfl rfl (V_assign rfl rfl) ?_
            refine GT_nil ?_
            refine GE_ret Tryd.func8 ⟨_, _, ⟨_, rfl, fun w m => run_loadVar_agg (vs := [_, _]) ag_24 sz_24 rfl (fun j v hj => CellsAt.item rfl j v hj w m)⟩, rfl, rfl⟩ (fun w hw => ?_)
            have e : un1 b = (td0, 8) := (by rw [eU1, hp]; refine if_neg ?_; rintro ⟨e1, e2⟩; first | exact q1 e1 | (refine q2 ?_; rw [pkL, if_pos (show tkE (stz (p1b b).1, d) = 0 from e1)]; exact congrArg stz e2)); exact ⟨(none, 0, []), by rw [e]; exact Own.nil, by rw [e] <;> rfl, hw.nil⟩
          · skip
            refine GT_st_g rfl rfl rfl rfl rfl rfl rfl (V_move rfl rfl) ?_
            refine GT_ldv_g rfl rfl rfl rfl rfl rfl rfl rfl (V_bytesStr rfl rfl Tryd.underlying25 Tryd.underlying5 Tryd.underlying9 (fun w m => hu.rdH eU_len m)) (GR_nil) ?_
            refine GT_st_g rfl rfl rfl rfl rfl rfl rfl (V_move rfl rfl) ?_
            refine GT_ldv_g rfl rfl rfl rfl rfl rfl rfl rfl (V_bytesStr rfl rfl Tryd.underlying25 Tryd.underlying5 Tryd.underlying9 (fun w m => h.sh m)) (GR_nil) ?_
            refine GT_st_g rfl rfl rfl rfl rfl rfl rfl (V_neqStr rfl rfl rfl) ?_
            refine GT_st rfl rfl rfl rfl (V_pick_f rfl rfl rfl) ?_
            refine GT_nil ?_
            first | refine GE_condNot rfl (fun q2 => ?_) (fun q2 => ?_) | refine GE_cond rfl (fun q2 => ?_) (fun q2 => ?_) | refine GE_condNotB rfl (fun q2 => ?_) (fun q2 => ?_) | refine GE_condB rfl (fun q2 => ?_) (fun q2 => ?_)
            · skip
              refine GE_seq ?_
              refine GE_slots (L' := [(2, _)]) ⟨rfl, trivial⟩ ?_
              refine GE_plain (.st 0 (.ld 1 [] (.st 2 .nil))) rfl ?_
              refine GT_st rfl rfl rfl rfl (V_build (vs := [_, _]) rfl rfl zc_24 pl_24 sa_24 rfl) ?_
              refine GT_store (vs := [_, _]) (l' := [_, _]) rfl rfl rfl rfl rfl rfl rfl sz_24 rfl rfl (Nat.le_of_ble_eq_true rfl) rfl (GR_nil) ?_
              refine GT_st rfl rfl rfl rfl (V_assign rfl rfl) ?_
              refine GT_nil ?_
              refine GE_ret Tryd.func8 ⟨_, _, ⟨_, rfl, fun w m => run_loadVar_agg (vs := [_, _]) ag_24 sz_24 rfl (fun j v hj => CellsAt.item rfl j v hj w m)⟩, rfl, rfl⟩ (fun w hw => ?_)
              have e : un1 b = (td0, 8) := (by rw [eU1, hp]; refine if_neg ?_; rintro ⟨e1, e2⟩; first | exact q1 e1 | (refine q2 ?_; rw [pkL, if_pos (show tkE (stz (p1b b).1, d) = 0 from e1)]; exact congrArg stz e2)); exact ⟨(none, 0, []), by rw [e]; exact Own.nil, by rw [e] <;> rfl, hw.nil⟩
            · skip
              refine GE_skip ?_
              refine GE_seq ?_
              refine GE_slots (L' := [(2, _), (7, _)]) ⟨rfl, rfl, trivial⟩ ?_
              refine GE_plain (.st 0 (.ld 1 [] (.st 2 .nil))) rfl ?_
              refine GT_st rfl rfl rfl rfl (V_loadN (vs := [_, _]) rfl rfl ag_24 sz_24 rfl (CellsAt.item rfl)) ?_
              refine GT_store (vs := [_, _]) (l' := [_, _]) rfl rfl rfl rfl rfl rfl rfl sz_24 rfl rfl (Nat.le_of_ble_eq_true rfl) rfl (GR_nil) ?_
              refine GT_st rfl rfl rfl rfl (V_assign rfl rfl) ?_
              refine GT_nil ?_
              refine GE_ret Tryd.func8 ⟨_, _, ⟨_, rfl, fun w m => run_loadVar_agg (vs := [_, _]) ag_24 sz_24 rfl (fun j v hj => CellsAt.item rfl j v hj w m)⟩, rfl, rfl⟩ (fun w hw => ?_)
              have e : un1 b = ((stz (p1b b).1, d), 0) := (by rw [eU1, hp]; refine if_pos ⟨q1, ?_⟩; have q3 := stz_inj.1 q2; rw [pkL, if_pos (show tkE (stz (p1b b).1, d) = 0 from q1)] at q3; exact q3); exact ⟨y, by rw [e]; exact hO, by rw [e] <;> rfl, hw.hs (C := cx Tryd.prog hm 0 0 _ none' fun _ _ => True) HS.last⟩
        · have hrn : r ≠ [] := (by intro q; rw [q] at h3; exact h3 rfl)
          refine GE_skip ?_
          refine GE_seq ?_
          refine GE_slots (L' := [(0, _), (2, _), (4, _), (6, _), (7, _), (30, _), (31, _)]) ⟨rfl, rfl, rfl, rfl, rfl, rfl, rfl, trivial⟩ ?_
          refine GE_plain (.st 0 (.ld 1 [] (.st 2 .nil))) rfl ?_
          refine GT_st rfl rfl rfl rfl (V_move rfl rfl) ?_
          refine GT_callX rfl rfl rfl rfl rfl rfl rfl rfl rn_21 (fun w m => C_tw (r := r) (m.hs (HS.cons rfl (HS.cons rfl HS.all))) hr hrc (by omega)) (fun _ _ => GR_nil) (fun y37 hy37 => ?_)
          refine GT_st rfl rfl rfl rfl (V_assign rfl rfl) ?_
          refine GT_nil ?_
          refine GE_drawn (.st 0 (.st 1 (.st 2 (.st 3 (.st 4 (.ld 5 [0, 1, 2, 3] (.st 6 (.st 7 (.ld 8 [0, 1] (.ld 9 [] (.st 10 (.ld 11 [] .nil)))))))))))) [5, 8, 9, 11] (by decide +kernel) ?_
          first | refine GT_st rfl rfl rfl rfl (V_field rfl rfl fo_24_1) ?_ | refine GT_st rfl rfl rfl rfl (V_fieldA rfl rfl fo_24_1) ?_
          refine GT_st rfl rfl rfl rfl (V_load rfl rfl ag_22 (CellAt.item rfl)) ?_
          refine GT_st rfl rfl rfl rfl (V_move rfl rfl) ?_
          refine GT_st rfl rfl rfl rfl (V_sub rfl rfl rfl (wrap_i64 (by omega))) ?_
          refine GT_st rfl rfl rfl rfl (V_move rfl rfl) ?_
          refine GT_callX rfl rfl rfl rfl rfl rfl rfl rfl rn_21 (fun w m => C_tw (r := tr r) (m.hs (HS.cons rfl (HS.cons rfl HS.all))) hy37.1 hy37.2 (by omega)) (fun _ _ => GR_cons rfl rfl rfl rfl ((by first | exact V_field rfl rfl fo_24_1 | exact V_fieldA rfl rfl fo_24_1)) (GR_cons rfl rfl rfl rfl (V_load rfl rfl ag_22 (CellAt.item rfl)) (GR_cons rfl rfl rfl rfl (V_move rfl rfl) (GR_cons rfl rfl rfl rfl (V_sub rfl rfl rfl (wrap_i64 (by omega))) (GR_nil))))) (fun y43 hy43 => ?_)
          refine GT_st rfl rfl rfl rfl (V_sub rfl rfl rfl (wrap_i64 (by omega))) ?_
          refine GT_st rfl rfl rfl rfl (V_build (vs := [_, _]) rfl rfl zc_45 pl_45 sa_45 rfl) ?_
          refine GT_buildSlice (z := [_, _]) rfl rfl rfl rfl rfl Tryd.underlying22 zc_45 sz_45 (by decide) rfl rfl (fun _ => GR_cons rfl rfl rfl rfl ((by first | exact V_field rfl rfl fo_24_1 | exact V_fieldA rfl rfl fo_24_1)) (GR_cons rfl rfl rfl rfl (V_load rfl rfl ag_22 (CellAt.item rfl)) (GR_nil))) (fun b46 => ?_)
          refine GT_append (enc := eSam) (m := [⟨tw r - 32768, tw (tr r) - 32768⟩]) rfl rfl rfl rfl rfl rfl rfl hO (fun w m => RdL.own' m eSam_len) Tryd.underlying22 zc_45 sz_45 ⟨rfl, by decide⟩ by_45 ⟨by simp only [List.length_singleton]; omega, by simp only [List.length_singleton]; omega⟩ eSam_len eSam_one (fun _ _ _ _ => GR_nil) (fun A3 c3 I3 hO3 => ?_)
          first | refine GT_st rfl rfl rfl rfl (V_field rfl rfl fo_24_1) ?_ | refine GT_st rfl rfl rfl rfl (V_fieldA rfl rfl fo_24_1) ?_
          refine GT_store (vs := [_]) (l' := [_, _]) rfl rfl rfl rfl rfl rfl rfl sz_22 rfl rfl (Nat.le_of_ble_eq_true rfl) rfl (GR_nil) ?_
          refine GT_nil ?_
          refine GE_inBlock ?_
          refine GE_slots (L' := [(0, _), (2, _), (4, _), (6, _), (7, _), (30, _), (31, _)]) ⟨rfl, rfl, rfl, rfl, rfl, rfl, rfl, trivial⟩ ?_
          refine GE_plain (.st 0 (.ld 1 [] .nil)) rfl ?_
          refine GT_st rfl rfl rfl rfl (V_add rfl rfl rfl (wrap_i64 (by omega))) ?_
          refine GT_ldv rfl rfl rfl rfl rfl (V_move rfl rfl) (GR_nil) ?_
          refine GT_nil ?_
          exact GE_to (ih (k + 1, d ++ [⟨tw r - 32768, tw (tr r) - 32768⟩], (A3, c3, I3), tr (tr r), y43) ⟨⟨by dsimp only; omega, by dsimp only; rw [List.length_append, List.length_singleton]; omega⟩, hO3, hy43.1, ⟨hy43.2, by dsimp only; omega⟩, by dsimp only; rw [← hd, dat_step (by omega) hrn, List.append_assoc, Nat.sub_sub]; rfl⟩ (by dsimp only; omega)) ⟨rfl, rfl, rfl, rfl, rfl, rfl, lookI rfl (by dsimp only; omega), trivial⟩ (HS.cons rfl (HS.cons rfl (HS.cons rfl (HS.cons rfl HS.last))))
      · have hd9 : d = dat (tw (p1b b).2).toNat (tr (p1b b).2) := (by rw [show (tw (p1b b).2).toNat - k = 0 by omega, dat, List.append_nil] at hd; exact hd)
        refine GE_exit rfl ?_
        refine GE_seq ?_
        refine GE_seq ?_
        refine GE_slots (L' := [(0, _), (2, _), (7, _)]) ⟨rfl, rfl, rfl, trivial⟩ ?_
        have hp : par1 b = (stz (p1b b).1, d) := (by rw [par1_eq, hd9])
        refine GE_plain (.st 0 (.ld 1 [] (.st 2 (.st 3 (.st 4 (.st 5 (.st 6 .nil))))))) rfl ?_
        refine GT_st rfl rfl rfl rfl (V_loadN (vs := [_, _]) rfl rfl ag_24 sz_24 rfl (CellsAt.item rfl)) ?_
        refine GT_call rfl rfl rfl rfl rfl rfl rfl rfl rn_6 (fun w hw => C_Pack (t := ⟨stz (p1b b).1, y.1, y.2.1, d⟩) (hO.rdH eSam_len hw) (by show (stz (p1b b).1).size ≤ maxLen; rw [← byz_len, byz_stz, hnl]; unfold maxLen; omega)) (fun _ _ => GR_nil) (fun u hu => ?_)
        refine GT_st rfl rfl rfl rfl (V_move rfl rfl) ?_
        refine GT_st rfl rfl rfl rfl (V_extract rfl rfl rfl) ?_
        refine GT_st rfl rfl rfl rfl (V_extract rfl rfl rfl) ?_
        refine GT_st rfl rfl rfl rfl (V_assign rfl rfl) ?_
        refine GT_st rfl rfl rfl rfl (V_assign rfl rfl) ?_
        refine GT_nil ?_
        refine GE_seq ?_
        refine GE_slots (L' := [(0, _), (2, _), (7, _), (10, _), (11, _)]) ⟨rfl, rfl, rfl, rfl, rfl, trivial⟩ ?_
        refine GE_plain (.st 0 (.st 1 (.st 2 (.st 3 (.ld 4 [] (.st 5 (.ld 6 [] (.st 7 (.st 8 .nil))))))))) rfl ?_
        refine GT_st rfl rfl rfl rfl (V_move rfl rfl) ?_
        refine GT_st rfl rfl rfl rfl (V_neq rfl rfl rfl) ?_
        refine GT_st rfl rfl rfl rfl (V_move rfl rfl) ?_
        first | refine GT_splitNot (d := 57) rfl (fun q1 => ?_) (fun q1 => ?_) | refine GT_split (d := 57) rfl (fun q1 => ?_) (fun q1 => ?_) | refine GT_splitNotB (d := 57) rfl (fun q1 => ?_) (fun q1 => ?_) | refine GT_splitB (d := 57) rfl (fun q1 => ?_) (fun q1 => ?_)
        · skip
          refine GT_skip rfl rfl rfl rfl rfl (by decide) rfl rfl ?_
          refine GT_skip_ld rfl rfl rfl rfl rfl (by decide) rfl rfl rfl (GR_nil) ?_
          refine GT_skip rfl rfl rfl rfl rfl (by decide) rfl rfl ?_
          refine GT_skip_ld rfl rfl rfl rfl rfl (by decide) rfl rfl rfl (GR_nil) ?_
          refine GT_skip rfl rfl rfl rfl rfl (by decide) rfl rfl ?_
          refine GT_st rfl rfl rfl rfl (V_pick_t rfl rfl rfl) ?_
          refine GT_nil ?_
          refine GE_cond_t rfl ?_
          refine GE_seq ?_
          refine GE_slots (L' := [(2, _)]) ⟨rfl, trivial⟩ ?_
          refine GE_plain (.st 0 (.ld 1 [] (.st 2 .nil))) rfl ?_
          refine GT_st rfl rfl rfl rfl (V_build (vs := [_, _]) rfl rfl zc_24 pl_24 sa_24 rfl) ?_
          refine GT_store (vs := [_, _]) (l' := [_, _]) rfl rfl rfl rfl rfl rfl rfl sz_24 rfl rfl (Nat.le_of_ble_eq_true rfl) rfl (GR_nil) ?_
          refine GT_st rfl rfl rfl rfl (V_assign rfl rfl) ?_
          refine GT_nil ?_
          refine GE_ret Tryd.func8 ⟨_, _, ⟨_, rfl, fun w m => run_loadVar_agg (vs := [_, _]) ag_24 sz_24 rfl (fun j v hj => CellsAt.item rfl j v hj w m)⟩, rfl, rfl⟩ (fun w hw => ?_)
          have e : un1 b = (td0, 8) := (by rw [eU1, hp]; refine if_neg ?_; rintro ⟨e1, e2⟩; first | exact q1 e1 | (refine q2 ?_; rw [pkL, if_pos (show tkE (stz (p1b b).1, d) = 0 from e1)]; exact congrArg stz e2)); exact ⟨(none, 0, []), by rw [e]; exact Own.nil, by rw [e] <;> rfl, hw.nil⟩
        · skip
          refine GT_st_g rfl rfl rfl rfl rfl rfl rfl (V_move rfl rfl) ?_
          refine GT_ldv_g rfl rfl rfl rfl rfl rfl rfl rfl (V_bytesStr rfl rfl Tryd.underlying25 Tryd.underlying5 Tryd.underlying9 (fun w m => hu.rdH eU_len m)) (GR_nil) ?_
          refine GT_st_g rfl rfl rfl rfl rfl rfl rfl (V_move rfl rfl) ?_
          refine GT_ldv_g rfl rfl rfl rfl rfl rfl rfl rfl (V_bytesStr rfl rfl Tryd.underlying25 Tryd.underlying5 Tryd.underlying9 (fun w m => h.sh m)) (GR_nil) ?_
          refine GT_st_g rfl rfl rfl rfl rfl rfl rfl (V_neqStr rfl rfl rfl) ?_
          refine GT_st rfl rfl rfl rfl (V_pick_f rfl rfl rfl) ?_
          refine GT_nil ?_
          first | refine GE_condNot rfl (fun q2 => ?_) (fun q2 => ?_) | refine GE_cond rfl (fun q2 => ?_) (fun q2 => ?_) | refine GE_condNotB rfl (fun q2 => ?_) (fun q2 => ?_) | refine GE_condB rfl (fun q2 => ?_) (fun q2 => ?_)
          · skip
            refine GE_seq ?_
            refine GE_slots (L' := [(2, _)]) ⟨rfl, trivial⟩ ?_
            refine GE_plain (.st 0 (.ld 1 [] (.st 2 .nil))) rfl ?_
            refine GT_st rfl rfl rfl rfl (V_build (vs := [_, _]) rfl rfl zc_24 pl_24 sa_24 rfl) ?_
            refine GT_store (vs := [_, _]) (l' := [_, _]) rfl rfl rfl rfl rfl rfl rfl sz_24 rfl rfl (Nat.le_of_ble_eq_true rfl) rfl (GR_nil) ?_
            refine GT_st rfl rfl rfl rfl (V_assign rfl rfl) ?_
            refine GT_nil ?_
            refine GE_ret Tryd.func8 ⟨_, _, ⟨_, rfl, fun w m => run_loadVar_agg (vs := [_, _]) ag_24 sz_24 rfl (fun j v hj => CellsAt.item rfl j v hj w m)⟩, rfl, rfl⟩ (fun w hw => ?_)
            have e : un1 b = (td0, 8) := (by rw [eU1, hp]; refine if_neg ?_; rintro ⟨e1, e2⟩; first | exact q1 e1 | (refine q2 ?_; rw [pkL, if_pos (show tkE (stz (p1b b).1, d) = 0 from e1)]; exact congrArg stz e2)); exact ⟨(none, 0, []), by rw [e]; exact Own.nil, by rw [e] <;> rfl, hw.nil⟩
          · skip
            refine GE_skip ?_
            refine GE_seq ?_
            refine GE_slots (L' := [(2, _), (7, _)]) ⟨rfl, rfl, trivial⟩ ?_
            refine GE_plain (.st 0 (.ld 1 [] (.st 2 .nil))) rfl ?_
            refine GT_st rfl rfl rfl rfl (V_loadN (vs := [_, _]) rfl rfl ag_24 sz_24 rfl (CellsAt.item rfl)) ?_
            refine GT_store (vs := [_, _]) (l' := [_, _]) rfl rfl rfl rfl rfl rfl rfl sz_24 rfl rfl (Nat.le_of_ble_eq_true rfl) rfl (GR_nil) ?_
            refine GT_st rfl rfl rfl rfl (V_assign rfl rfl) ?_
            refine GT_nil ?_
            refine GE_ret Tryd.func8 ⟨_, _, ⟨_, rfl, fun w m => run_loadVar_agg (vs := [_, _]) ag_24 sz_24 rfl (fun j v hj => CellsAt.item rfl j v hj w m)⟩, rfl, rfl⟩ (fun w hw => ?_)
            have e : un1 b = ((stz (p1b b).1, d), 0) := (by rw [eU1, hp]; refine if_pos ⟨q1, ?_⟩; have q3 := stz_inj.1 q2; rw [pkL, if_pos (show tkE (stz (p1b b).1, d) = 0 from q1)] at q3; exact q3); exact ⟨y, by rw [e]; exact hO, by rw [e] <;> rfl, hw.hs (C := cx Tryd.prog hm 0 0 _ none' fun _ _ => True) HS.last⟩
    · exact ⟨⟨Nat.zero_le _, Nat.le_refl _⟩, Own.nil, hy30.1, ⟨hy30.2, by dsimp only; omega⟩, rfl⟩
end
end Go.Proofs.YtdcjgjopmicidaaDoor
