/- LatheApart, walked. -/
import Derived.Test.YtacmnmcaeflflaaLaJ
namespace Go.Proofs.Ytacmnmcaeflflaa
open Go.Sx Go.Proofs

theorem outer_cutE {b : Blank} {l : List Pt} {R : List Int} (he : both b l = 0) (ho : outer b l = some R) : cutE b l R = 0 ∧ R.length = l.length ∧ Keeps b l (val R) := by
  obtain ⟨h1, h2⟩ := outer_cutRes he ho
  obtain ⟨_, h3⟩ := (cutRes_zero he).1 h2
  obtain ⟨hb, hl, hpt⟩ := both_zero.1 he
  exact ⟨cutE_zero.2 ⟨he, h1, keeps_rOk hb (ptB_of hpt) h1 h3⟩, h1, h3⟩
theorem pitch {b : Blank} {l : List Pt} {R : List Int} (hk : Keeps b l (val R)) {i : Nat} (hi : i < l.length) : ∀ j, j ≤ i → (j : Int) * b.slow ≤ R.getD (i - j) default - R.getD i default ∧ R.getD (i - j) default - R.getD i default ≤ (j : Int) * b.fast
  | 0, _ => by simp
  | j + 1, hj => by
    obtain ⟨h1, h2⟩ := pitch hk hi j (by omega)
    have hIn : In l.length ((i - j : Nat) : Int) := ⟨by omega, by omega⟩
    have h3 := hk.edges (edgeOf b l 3 ((i - j : Nat) : Int)).1 ⟨3, _, .inl rfl, hIn, by rw [edgeOf_three hIn]; simp; omega, rfl⟩
    have h4 := hk.edges (edgeOf b l 4 ((i - j : Nat) : Int)).1 ⟨4, _, .inr (.inl rfl), hIn, by rw [edgeOf_four hIn]; simp; omega, rfl⟩
    rw [edgeOf_three hIn] at h3
    rw [edgeOf_four hIn] at h4
    dsimp only at h3 h4
    have e : ((i - j : Nat) : Int) - 1 = ((i - (j + 1) : Nat) : Int) := by omega
    rw [e, val_nat, val_nat] at h3 h4
    rw [show ((j + 1 : Nat) : Int) = (j : Int) + 1 by omega, Int.add_mul, Int.add_mul]
    omega
theorem apart {b : Blank} {l : List Pt} {R : List Int} (hb : b.ok = true) (hk : Keeps b l (val R)) {i : Nat} (hi : i < l.length) (hp : b.per.toNat ≤ i) : b.land ≤ landAt b l R i := by
  rw [Blank.ok_iff] at hb
  have hIn : In l.length (i : Int) := ⟨by omega, by omega⟩
  have h5 := hk.edges (edgeOf b l 5 i).1 ⟨5, _, .inr (.inr rfl), hIn, by rw [edgeOf_five hIn, if_neg (by omega)], rfl⟩
  rw [edgeOf_five hIn, if_neg (by omega)] at h5
  dsimp only at h5
  have e : (i : Int) - b.per = ((i - b.per.toNat : Nat) : Int) := by omega
  rw [e, val_nat, val_nat, Int.toNat_natCast, Int.toNat_natCast] at h5
  unfold landAt; omega

set_option maxRecDepth 10000 in
set_option maxHeartbeats 1000000 in
theorem L_LatheApart {b : Blank} {A : Option Addr} {l : List Pt} {c : Nat} {w : World} (hp : RdL w 2 ePt A l) (_ : l.length ≤ c ∧ c ≤ maxLen ∧ ∀ x ∈ l, PtWf x) :
    Con0 Try.prog 11 [b.val, .slice A l.length c] w (.bool true) := by
  refine Ret_of (vs := [_, _]) hm none' Try.func11 rfl Try.ntmps11 rfl ?_
  dsimp only [slotsOf]
  refine GE_seq ?_
  refine GE_plain (.ld 0 [] (.st 1 .nil)) rfl ?_
  refine GT_box (z := [_, _, _, _, _, _]) rfl rfl rfl rfl rfl rfl rfl (fun _ => GR_nil) (fun b2 => ?_)
  refine GT_st rfl rfl rfl rfl (V_assign rfl rfl) ?_
  refine GT_nil ?_
  refine GE_seq ?_
  refine GE_seq ?_
  refine GE_plain (.st 0 (.st 1 (.ld 2 [] (.st 3 .nil)))) rfl ?_
  refine GT_st rfl rfl rfl rfl (V_loadN (vs := [_, _, _, _, _, _]) rfl rfl ag_23 sz_23 rfl (CellsAt.item rfl)) ?_
  refine GT_st rfl rfl rfl rfl (V_move rfl rfl) ?_
  refine GT_call0 rfl rfl rfl rfl rfl rfl rfl rfl rn_24 (fun w hw => C_law05_valid (hp.sh hw)) (GR_nil) ?_
  first | refine GT_st rfl rfl rfl rfl (V_not rfl rfl) ?_ | refine GT_st rfl rfl rfl rfl (V_notB rfl rfl) ?_
  refine GT_nil ?_
  first | refine GE_condNot rfl (fun h1 => ?_) (fun h1 => ?_) | refine GE_cond rfl (fun h1 => ?_) (fun h1 => ?_) | refine GE_condNotB rfl (fun h1 => ?_) (fun h1 => ?_) | refine GE_condB rfl (fun h1 => ?_) (fun h1 => ?_)
  · skip
    refine GE_seq ?_
    refine GE_slots (L' := []) trivial ?_
    refine GE_plain (.ld 0 [] (.st 1 .nil)) rfl ?_
    refine GT_call0 rfl rfl rfl rfl rfl rfl rfl rfl rn_16 (fun w hw => C_law05_Works) (GR_nil) ?_
    refine GT_st rfl rfl rfl rfl (V_assign rfl rfl) ?_
    refine GT_nil ?_
    refine GE_ret Try.func11 rfl (fun w hw => ⟨?_, hw.nil⟩)
    rfl
  · obtain ⟨hl, he⟩ := of_valid h1; obtain ⟨hb, _, hpt⟩ := both_zero.1 he; have hpb := ptB_of hpt; have hbo := Blank.ok_iff.1 hb
    refine GE_skip ?_
    refine GE_seq ?_
    refine GE_slots (L' := [(1, _), (2, _)]) ⟨rfl, rfl, trivial⟩ ?_
    refine GE_plain (.st 0 (.st 1 (.ld 2 [] (.st 3 (.st 4 (.st 5 (.st 6 (.st 7 .nil)))))))) rfl ?_
    refine GT_st rfl rfl rfl rfl (V_loadN (vs := [_, _, _, _, _, _]) rfl rfl ag_23 sz_23 rfl (CellsAt.item rfl)) ?_
    refine GT_st rfl rfl rfl rfl (V_move rfl rfl) ?_
    refine GT_call rfl rfl rfl rfl rfl rfl rfl rfl rn_17 (fun w hw => C_lathe_Outermost (hp.sh hw)) (fun _ _ => GR_nil) (fun y hy => ?_)
    refine GT_st rfl rfl rfl rfl (V_move rfl rfl) ?_
    refine GT_st rfl rfl rfl rfl (V_extract rfl rfl rfl) ?_
    refine GT_st rfl rfl rfl rfl (V_extract rfl rfl rfl) ?_
    refine GT_st rfl rfl rfl rfl (V_assign rfl rfl) ?_
    refine GT_st rfl rfl rfl rfl (V_assign rfl rfl) ?_
    refine GT_nil ?_
    refine GE_seq ?_
    refine GE_seq ?_
    refine GE_slots (L' := [(1, _), (2, _), (5, _), (6, _)]) ⟨rfl, rfl, rfl, rfl, trivial⟩ ?_
    refine GE_plain (.st 0 (.st 1 .nil)) rfl ?_
    refine GT_st rfl rfl rfl rfl (V_move rfl rfl) ?_
    refine GT_st rfl rfl rfl rfl (V_neq rfl rfl rfl) ?_
    refine GT_nil ?_
    first | refine GE_condNot rfl (fun h2 => ?_) (fun h2 => ?_) | refine GE_cond rfl (fun h2 => ?_) (fun h2 => ?_) | refine GE_condNotB rfl (fun h2 => ?_) (fun h2 => ?_) | refine GE_condB rfl (fun h2 => ?_) (fun h2 => ?_)
    · obtain ⟨ho, e1, e2⟩ := outE_ne he h2
      refine GE_seq ?_
      refine GE_slots (L' := [(6, _)]) ⟨rfl, trivial⟩ ?_
      refine GE_plain (.st 0 (.st 1 (.st 2 (.ld 3 [] (.st 4 (.st 5 .nil)))))) rfl ?_
      refine GT_st rfl rfl rfl rfl (V_move rfl rfl) ?_
      refine GT_st rfl rfl rfl rfl (V_isT (V_eql rfl rfl rfl) e1) ?_
      refine GT_st rfl rfl rfl rfl (V_move rfl rfl) ?_
      refine GT_call0_g rfl rfl rfl rfl rfl rfl rfl rfl rfl rfl rfl rn_16 (fun w hw => C_law05_Works) (GR_nil) ?_
      refine GT_st rfl rfl rfl rfl (V_pick_t rfl rfl rfl) ?_
      refine GT_st rfl rfl rfl rfl (V_assign rfl rfl) ?_
      refine GT_nil ?_
      refine GE_ret Try.func11 rfl (fun w hw => ⟨?_, hw.nil⟩)
      rfl
    · have ho := outE_eq he h2; obtain ⟨hc, hRl, hk⟩ := outer_cutE he ho; generalize outR b l = R at *
      have hres : tightRes b l R = if (l.length : Int) ≤ b.per then (0, 0, 5) else ((tightTo b l R l.length : Int), landAt b l R (tightTo b l R l.length), 0) := if_pos hc
      have herr : decide ((tightRes b l R).2.2 = 0) = decide (b.per < (l.length : Int)) := (by rw [hres]; split; simp; omega; simp; omega)
      have htt : b.per < (l.length : Int) → tightRes b l R = ((tightTo b l R l.length : Int), landAt b l R (tightTo b l R l.length), 0) := (fun q => by rw [hres, if_neg (by omega)])
      have htl := tightTo_ge (b := b) (l := l) (r := R) l.length
      obtain ⟨t1, t2, t3⟩ := htl
      have hll : ∀ i : Nat, b.per.toNat ≤ i → i < l.length → landRes b l R i = (landAt b l R i, 0) := (fun i q1 q2 => by have e : landRes b l R i = if (i : Int) < b.per ∨ (l.length : Int) ≤ (i : Int) then (0, 3) else (landAt b l R ((i : Int)).toNat, 0) := if_pos hc; rw [e, if_neg (by omega)]; rfl)
      refine GE_skip ?_
      refine GE_seq ?_
      refine GE_seq ?_
      refine GE_plain (.st 0 (.st 1 (.st 2 (.st 3 (.st 4 .nil))))) rfl ?_
      refine GT_st rfl rfl rfl rfl (V_move rfl rfl) ?_
      refine GT_st rfl rfl rfl rfl (V_len rfl Try.underlying25 rfl) ?_
      refine GT_st rfl rfl rfl rfl (V_move rfl rfl) ?_
      refine GT_st rfl rfl rfl rfl (V_len rfl Try.underlying24 rfl) ?_
      refine GT_st rfl rfl rfl rfl (V_isF (V_neq rfl rfl rfl) (fun q => q (by rw [hRl]))) ?_
      refine GT_nil ?_
      refine GE_cond_f rfl ?_
      refine GE_skip ?_
      refine GE_seq ?_
      refine GE_slots (L' := [(1, _), (2, _), (5, _)]) ⟨rfl, rfl, rfl, trivial⟩ ?_
      refine GE_plain (.st 0 (.st 1 (.st 2 (.ld 3 [] (.st 4 (.st 5 (.st 6 (.st 7 (.st 8 (.st 9 (.st 10 .nil))))))))))) rfl ?_
      refine GT_st rfl rfl rfl rfl (V_loadN (vs := [_, _, _, _, _, _]) rfl rfl ag_23 sz_23 rfl (CellsAt.item rfl)) ?_
      refine GT_st rfl rfl rfl rfl (V_move rfl rfl) ?_
      refine GT_st rfl rfl rfl rfl (V_move rfl rfl) ?_
      refine GT_call0 rfl rfl rfl rfl rfl rfl rfl rfl rn_32 (fun w hw => C_lathe_Tightest (hp.sh hw) (hy.rdH eI_len hw) (by omega)) (GR_nil) ?_
      refine GT_st rfl rfl rfl rfl (V_move rfl rfl) ?_
      refine GT_st rfl rfl rfl rfl (V_extract rfl rfl rfl) ?_
      refine GT_st rfl rfl rfl rfl (V_extract rfl rfl rfl) ?_
      refine GT_st rfl rfl rfl rfl (V_extract rfl rfl rfl) ?_
      refine GT_st rfl rfl rfl rfl (V_assign rfl rfl) ?_
      refine GT_st rfl rfl rfl rfl (V_assign rfl rfl) ?_
      refine GT_st rfl rfl rfl rfl (V_assign rfl rfl) ?_
      refine GT_nil ?_
      refine GE_cut (ι := Unit) (fun _ => [(1, .slice A l.length c), (2, ptr b2 0), (5, .slice y.1 R.length y.2.1), (7, I (tightRes b l R).1), (8, I (tightRes b l R).2.1)]) (fun _ => y.2.2 ++ [(b2, blk b.cells 23)]) (fun _ => True) ?_ (fun hk => ?_)
      · intro _ _
        refine GE_seq ?_
        refine GE_seq ?_
        refine GE_plain (.st 0 .nil) rfl ?_
        refine GT_st rfl rfl rfl rfl (V_assign rfl rfl) ?_
        refine GT_nil ?_
        refine GE_block ?_
        refine GE_to (GE_loop (ι := Nat) (fun k => l.length - k) (fun k => [(1, .slice A l.length c), (2, ptr b2 0), (5, .slice y.1 R.length y.2.1), (7, I (tightRes b l R).1), (8, I (tightRes b l R).2.1), (10, I k)]) (fun k => y.2.2 ++ [(b2, blk b.cells 23)]) (fun k => k ≤ l.length) ?_ 0 ?_) ⟨rfl, rfl, rfl, rfl, rfl, rfl, trivial⟩ (HS.chunk (HS.cons rfl HS.nil))
        · intro k hk0 ih
          refine GE_seq ?_
          refine GE_seq ?_
          refine GE_plain (.st 0 (.st 1 (.st 2 (.st 3 .nil)))) rfl ?_
          refine GT_st rfl rfl rfl rfl (V_move rfl rfl) ?_
          refine GT_st rfl rfl rfl rfl (V_move rfl rfl) ?_
          refine GT_st rfl rfl rfl rfl (V_len rfl Try.underlying25 rfl) ?_
          refine GT_st rfl rfl rfl rfl (V_lss rfl rfl rfl) ?_
          refine GT_nil ?_
          first | refine GE_condNot rfl (fun h5 => ?_) (fun h5 => ?_) | refine GE_cond rfl (fun h5 => ?_) (fun h5 => ?_) | refine GE_condNotB rfl (fun h5 => ?_) (fun h5 => ?_) | refine GE_condB rfl (fun h5 => ?_) (fun h5 => ?_)
          · have hkl : k < l.length := (by omega)
            have hr1 := rOk_at (cutE_zero.1 hc).2.2 (q := k) (by omega)
            have hp1 := hpb k hkl
            have hrim := hk.rim k ⟨by omega, by omega⟩
            have hcor := hk.core k hkl
            rw [val_nat] at hrim hcor
            unfold r0 at hrim
            rw [Int.toNat_natCast] at hrim
            refine GE_skip ?_
            refine GE_seq ?_
            refine GE_block ?_
            refine GE_seq ?_
            refine GE_seq ?_
            refine GE_slots (L' := [(1, _), (2, _), (5, _), (7, _), (8, _), (10, _)]) ⟨rfl, rfl, rfl, rfl, rfl, rfl, trivial⟩ ?_
            refine GE_drawn (.st 0 (.st 1 (.st 2 (.st 3 (.st 4 (.st 5 (.st 6 (.st 7 (.st 8 (.st 9 (.st 10 (.st 11 (.st 12 (.st 13 (.st 14 (.st 15 (.st 16 (.st 17 (.st 18 (.st 19 (.st 20 (.st 21 (.st 22 (.st 23 (.st 24 (.st 25 (.st 26 (.st 27 .nil)))))))))))))))))))))))))))) [] (by decide +kernel) ?_
            refine GT_st rfl rfl rfl rfl (V_move rfl rfl) ?_
            refine GT_st rfl rfl rfl rfl (V_move rfl rfl) ?_
            refine GT_st rfl rfl rfl rfl (V_index rfl rfl rfl Try.underlying25 sz_2 (k := k) rfl (by omega) (hy.isSome (k := k) (by omega))) ?_
            refine GT_st rfl rfl rfl rfl (V_load rfl rfl ag_2 (CellAt.own0 hy eI_len (by omega) rfl)) ?_
            refine GT_st rfl rfl rfl rfl (V_move rfl rfl) ?_
            refine GT_st rfl rfl rfl rfl (V_move rfl rfl) ?_
            refine GT_st rfl rfl rfl rfl (V_index rfl rfl rfl Try.underlying24 sz_39 (k := k) rfl hkl (hp.isSome hkl)) ?_
            first | refine GT_st rfl rfl rfl rfl (V_field rfl rfl fo_39_1) ?_ | refine GT_st rfl rfl rfl rfl (V_fieldA rfl rfl fo_39_1) ?_
            refine GT_st rfl rfl rfl rfl (V_load rfl rfl ag_2 (hp.at1 noM hkl rfl)) ?_
            refine GT_st rfl rfl rfl rfl (V_add rfl rfl rfl (wrap_i64 (by omega))) ?_
            first | refine GT_st rfl rfl rfl rfl (V_field rfl rfl fo_23_1) ?_ | refine GT_st rfl rfl rfl rfl (V_fieldA rfl rfl fo_23_1) ?_
            refine GT_st rfl rfl rfl rfl (V_load rfl rfl ag_2 (CellAt.item rfl)) ?_
            refine GT_st rfl rfl rfl rfl (V_isF (V_gtr rfl rfl rfl) (by omega)) ?_
            refine GT_st rfl rfl rfl rfl (V_move rfl rfl) ?_
            refine GT_st_g rfl rfl rfl rfl rfl rfl rfl (V_move rfl rfl) ?_
            refine GT_st_g rfl rfl rfl rfl rfl rfl rfl (V_move rfl rfl) ?_
            refine GT_st_g rfl rfl rfl rfl rfl rfl rfl (V_index rfl rfl rfl Try.underlying25 sz_2 (k := k) rfl (by omega) (hy.isSome (k := k) (by omega))) ?_
            refine GT_st_g rfl rfl rfl rfl rfl rfl rfl (V_load rfl rfl ag_2 (CellAt.own0 hy eI_len (by omega) rfl)) ?_
            refine GT_st_g rfl rfl rfl rfl rfl rfl rfl (V_move rfl rfl) ?_
            refine GT_st_g rfl rfl rfl rfl rfl rfl rfl (V_move rfl rfl) ?_
            refine GT_st_g rfl rfl rfl rfl rfl rfl rfl (V_index rfl rfl rfl Try.underlying24 sz_39 (k := k) rfl hkl (hp.isSome hkl)) ?_
            first | refine GT_st_g rfl rfl rfl rfl rfl rfl rfl (V_field rfl rfl fo_39_0) ?_ | refine GT_st_g rfl rfl rfl rfl rfl rfl rfl (V_fieldA rfl rfl fo_39_0) ?_
            refine GT_st_g rfl rfl rfl rfl rfl rfl rfl (V_load rfl rfl ag_2 (hp.at0 noM hkl rfl)) ?_
            refine GT_st_g rfl rfl rfl rfl rfl rfl rfl (V_add rfl rfl rfl (wrap_i64 (by omega))) ?_
            first | refine GT_st_g rfl rfl rfl rfl rfl rfl rfl (V_field rfl rfl fo_23_2) ?_ | refine GT_st_g rfl rfl rfl rfl rfl rfl rfl (V_fieldA rfl rfl fo_23_2) ?_
            refine GT_st_g rfl rfl rfl rfl rfl rfl rfl (V_load rfl rfl ag_2 (CellAt.item rfl)) ?_
            refine GT_st_g rfl rfl rfl rfl rfl rfl rfl (V_isF (V_lss rfl rfl rfl) (by omega)) ?_
            refine GT_st rfl rfl rfl rfl (V_pick_f rfl rfl rfl) ?_
            refine GT_nil ?_
            refine GE_cond_f rfl ?_
            refine GE_skip ?_
            refine GE_seq ?_
            refine GE_seq ?_
            refine GE_slots (L' := [(1, _), (2, _), (5, _), (7, _), (8, _), (10, _), (89, _), (90, _), (91, _), (92, _), (93, _), (94, _), (95, _), (96, _), (97, _), (98, _), (99, _), (100, _), (101, _)]) ⟨rfl, rfl, rfl, rfl, rfl, rfl, rfl, rfl, rfl, rfl, rfl, rfl, rfl, rfl, rfl, rfl, rfl, rfl, rfl, trivial⟩ ?_
            refine GE_plain (.st 0 (.st 1 (.st 2 (.st 3 .nil)))) rfl ?_
            refine GT_st rfl rfl rfl rfl (V_move rfl rfl) ?_
            first | refine GT_st rfl rfl rfl rfl (V_field rfl rfl fo_23_0) ?_ | refine GT_st rfl rfl rfl rfl (V_fieldA rfl rfl fo_23_0) ?_
            refine GT_st rfl rfl rfl rfl (V_load rfl rfl ag_2 (CellAt.item rfl)) ?_
            refine GT_st rfl rfl rfl rfl (V_lss rfl rfl rfl) ?_
            refine GT_nil ?_
            first | refine GE_condNot rfl (fun h6 => ?_) (fun h6 => ?_) | refine GE_cond rfl (fun h6 => ?_) (fun h6 => ?_) | refine GE_condNotB rfl (fun h6 => ?_) (fun h6 => ?_) | refine GE_condB rfl (fun h6 => ?_) (fun h6 => ?_)
            · skip
              refine GE_exit rfl ?_
              refine GE_slots (L' := [(1, _), (2, _), (5, _), (7, _), (8, _), (10, _), (89, _), (90, _), (91, _), (92, _), (93, _), (94, _), (95, _), (96, _), (97, _), (98, _), (99, _), (100, _), (101, _)]) ⟨rfl, rfl, rfl, rfl, rfl, rfl, rfl, rfl, rfl, rfl, rfl, rfl, rfl, rfl, rfl, rfl, rfl, rfl, rfl, trivial⟩ ?_
              refine GE_plain (.st 0 (.st 1 (.ld 2 [] .nil))) rfl ?_
              refine GT_st rfl rfl rfl rfl (V_move rfl rfl) ?_
              refine GT_st rfl rfl rfl rfl (V_add rfl rfl rfl (wrap_i64 (by omega))) ?_
              refine GT_ldv rfl rfl rfl rfl rfl (V_assign rfl rfl) (GR_nil) ?_
              refine GT_nil ?_
              first
                | exact GE_to (ih (k + 1) (by omega) (by omega)) ⟨rfl, rfl, rfl, rfl, rfl, rfl, trivial⟩ (HS.chunk (HS.cons rfl HS.nil))
                | exact GE_to (ih (k + 1) (by omega) (by omega)) ⟨rfl, rfl, rfl, lookI rfl (by rw [hT]), lookI rfl (by rw [hT]), rfl, trivial⟩ (HS.chunk (HS.cons rfl HS.nil))
            · have hpk : b.per.toNat ≤ k := (by omega)
              have hpl : b.per < (l.length : Int) := (by omega)
              have hT := htt hpl
              have t4 := t3 (by omega)
              have hL := hll k hpk hkl
              have hap := apart hb hk hkl hpk
              have hle := tightTo_least (b := b) (l := l) (r := R) l.length k hpk hkl
              have hpi := pitch hk hkl b.per.toNat hpk
              have hr2 := rOk_at (cutE_zero.1 hc).2.2 (q := k - b.per.toNat) (by omega)
              have epp : ((b.per.toNat : Nat) : Int) = b.per := (by omega)
              rw [epp] at hpi
              have hm1 : 0 ≤ b.per * b.slow ∧ b.per * b.slow ≤ 65536 * 65536 := ⟨Int.mul_nonneg (by omega) (by omega), Int.mul_le_mul (by omega) (by omega) (by omega) (by omega)⟩
              have hm2 : 0 ≤ b.per * b.fast ∧ b.per * b.fast ≤ 65536 * 65536 := ⟨Int.mul_nonneg (by omega) (by omega), Int.mul_le_mul (by omega) (by omega) (by omega) (by omega)⟩
              rw [hT]
              refine GE_skip ?_
              refine GE_seq ?_
              refine GE_slots (L' := [(1, _), (2, _), (5, _), (7, _), (8, _), (10, _), (89, _), (90, _), (91, _), (92, _), (93, _), (94, _), (95, _), (96, _), (97, _), (98, _), (99, _), (100, _), (101, _)]) ⟨rfl, rfl, rfl, rfl, rfl, rfl, rfl, rfl, rfl, rfl, rfl, rfl, rfl, rfl, rfl, rfl, rfl, rfl, rfl, trivial⟩ ?_
              refine GE_plain (.st 0 (.st 1 (.st 2 (.st 3 (.ld 4 [] (.st 5 (.st 6 (.st 7 (.st 8 (.st 9 .nil)))))))))) rfl ?_
              refine GT_st rfl rfl rfl rfl (V_loadN (vs := [_, _, _, _, _, _]) rfl rfl ag_23 sz_23 rfl (CellsAt.item rfl)) ?_
              refine GT_st rfl rfl rfl rfl (V_move rfl rfl) ?_
              refine GT_st rfl rfl rfl rfl (V_move rfl rfl) ?_
              refine GT_st rfl rfl rfl rfl (V_move rfl rfl) ?_
              refine GT_call0 rfl rfl rfl rfl rfl rfl rfl rfl rn_30 (fun w hw => (by have := C_lathe_Land (b := b) (c := c) (c2 := y.2.1) (h := (k : Int)) (hp.sh hw) (hy.rdH eI_len hw) (by omega); rw [hL] at this; exact this)) (GR_nil) ?_
              refine GT_st rfl rfl rfl rfl (V_move rfl rfl) ?_
              refine GT_st rfl rfl rfl rfl (V_extract rfl rfl rfl) ?_
              refine GT_st rfl rfl rfl rfl (V_extract rfl rfl rfl) ?_
              refine GT_st rfl rfl rfl rfl (V_assign rfl rfl) ?_
              refine GT_st rfl rfl rfl rfl (V_assign rfl rfl) ?_
              refine GT_nil ?_
              refine GE_seq ?_
              refine GE_slots (L' := [(1, _), (2, _), (5, _), (7, _), (8, _), (10, _), (11, _), (12, _), (89, _), (90, _), (91, _), (92, _), (93, _), (94, _), (95, _), (96, _), (97, _), (98, _), (99, _), (100, _), (101, _)]) ⟨rfl, rfl, rfl, rfl, rfl, rfl, rfl, rfl, rfl, rfl, rfl, rfl, rfl, rfl, rfl, rfl, rfl, rfl, rfl, rfl, rfl, trivial⟩ ?_
              refine GE_drawn (.st 0 (.st 1 (.st 2 (.st 3 (.st 4 (.st 5 (.st 6 (.st 7 (.st 8 (.st 9 (.st 10 (.st 11 (.st 12 .nil))))))))))))) [] (by decide +kernel) ?_
              refine GT_st rfl rfl rfl rfl (V_move rfl rfl) ?_
              refine GT_st rfl rfl rfl rfl (V_move rfl rfl) ?_
              first | refine GT_st rfl rfl rfl rfl (V_field rfl rfl fo_23_0) ?_ | refine GT_st rfl rfl rfl rfl (V_fieldA rfl rfl fo_23_0) ?_
              refine GT_st rfl rfl rfl rfl (V_load rfl rfl ag_2 (CellAt.item rfl)) ?_
              refine GT_st rfl rfl rfl rfl (V_sub rfl rfl rfl (wrap_i64 (by omega))) ?_
              refine GT_st rfl rfl rfl rfl (V_index rfl rfl rfl Try.underlying25 sz_2 (k := k - b.per.toNat) (by omega) (by omega) (hy.isSome (k := k) (by omega))) ?_
              refine GT_st rfl rfl rfl rfl (V_load rfl rfl ag_2 (CellAt.own0 hy eI_len (by omega) rfl)) ?_
              refine GT_st rfl rfl rfl rfl (V_move rfl rfl) ?_
              refine GT_st rfl rfl rfl rfl (V_move rfl rfl) ?_
              refine GT_st rfl rfl rfl rfl (V_index rfl rfl rfl Try.underlying25 sz_2 (k := k) rfl (by omega) (hy.isSome (k := k) (by omega))) ?_
              refine GT_st rfl rfl rfl rfl (V_load rfl rfl ag_2 (CellAt.own0 hy eI_len (by omega) rfl)) ?_
              refine GT_st rfl rfl rfl rfl (V_sub rfl rfl rfl (wrap_i64 (by omega))) ?_
              refine GT_st rfl rfl rfl rfl (V_assign rfl rfl) ?_
              refine GT_nil ?_
              refine GE_seq ?_
              refine GE_slots (L' := [(1, _), (2, _), (5, _), (7, _), (8, _), (10, _), (11, _), (12, _), (13, _), (89, _), (90, _), (91, _), (92, _), (93, _), (94, _), (95, _), (96, _), (97, _), (98, _), (99, _), (100, _), (101, _)]) ⟨rfl, rfl, rfl, rfl, rfl, rfl, rfl, rfl, rfl, rfl, rfl, rfl, rfl, rfl, rfl, rfl, rfl, rfl, rfl, rfl, rfl, rfl, trivial⟩ ?_
              refine GE_plain (.st 0 (.st 1 (.st 2 (.st 3 (.st 4 (.st 5 (.st 6 (.st 7 (.st 8 (.st 9 (.st 10 (.st 11 (.st 12 (.st 13 (.st 14 (.st 15 (.st 16 (.st 17 (.st 18 (.st 19 (.st 20 (.st 21 (.st 22 (.st 23 (.st 24 (.st 25 (.st 26 (.st 27 (.st 28 (.st 29 (.st 30 (.st 31 (.st 32 (.st 33 (.st 34 (.st 35 (.st 36 (.st 37 (.st 38 (.st 39 (.st 40 (.st 41 (.st 42 (.st 43 (.st 44 (.st 45 (.st 46 (.st 47 (.st 48 (.st 49 (.st 50 .nil))))))))))))))))))))))))))))))))))))))))))))))))))) rfl ?_
              refine GT_st rfl rfl rfl rfl (V_move rfl rfl) ?_
              refine GT_st rfl rfl rfl rfl (V_isF (V_neq rfl rfl rfl) (fun q => q rfl)) ?_
              refine GT_st rfl rfl rfl rfl (V_move rfl rfl) ?_
              refine GT_st_g rfl rfl rfl rfl rfl rfl rfl (V_move rfl rfl) ?_
              first | refine GT_st_g rfl rfl rfl rfl rfl rfl rfl (V_field rfl rfl fo_23_3) ?_ | refine GT_st_g rfl rfl rfl rfl rfl rfl rfl (V_fieldA rfl rfl fo_23_3) ?_
              refine GT_st_g rfl rfl rfl rfl rfl rfl rfl (V_load rfl rfl ag_2 (CellAt.item rfl)) ?_
              refine GT_st_g rfl rfl rfl rfl rfl rfl rfl (V_isF (V_lss rfl rfl rfl) (by dsimp only; omega)) ?_
              refine GT_st rfl rfl rfl rfl (V_pick_f rfl rfl rfl) ?_
              refine GT_st rfl rfl rfl rfl (V_move rfl rfl) ?_
              refine GT_st_g rfl rfl rfl rfl rfl rfl rfl (V_move rfl rfl) ?_
              refine GT_st_g rfl rfl rfl rfl rfl rfl rfl (V_move rfl rfl) ?_
              refine GT_st_g rfl rfl rfl rfl rfl rfl rfl (V_isF (V_lss rfl rfl rfl) (by dsimp only; omega)) ?_
              refine GT_st rfl rfl rfl rfl (V_pick_f rfl rfl rfl) ?_
              refine GT_st rfl rfl rfl rfl (V_move rfl rfl) ?_
              refine GT_st_g rfl rfl rfl rfl rfl rfl rfl (V_move rfl rfl) ?_
              refine GT_st_g rfl rfl rfl rfl rfl rfl rfl (V_move rfl rfl) ?_
              refine GT_st_g rfl rfl rfl rfl rfl rfl rfl (V_lss rfl rfl rfl) ?_
              refine GT_st_g rfl rfl rfl rfl rfl rfl rfl (V_move rfl rfl) ?_
              first | refine GT_splitNot (d := 144) rfl (fun h7 => ?_) (fun h7 => ?_) | refine GT_split (d := 144) rfl (fun h7 => ?_) (fun h7 => ?_) | refine GT_splitNotB (d := 144) rfl (fun h7 => ?_) (fun h7 => ?_) | refine GT_splitB (d := 144) rfl (fun h7 => ?_) (fun h7 => ?_)
              · skip
                refine GT_st_g rfl rfl rfl rfl rfl rfl rfl (V_move rfl rfl) ?_
                refine GT_st_g rfl rfl rfl rfl rfl rfl rfl (V_move rfl rfl) ?_
                refine GT_st_g rfl rfl rfl rfl rfl rfl rfl (V_isF (V_eql rfl rfl rfl) (by have := hle.2 (by dsimp only at h7; omega); dsimp only; omega)) ?_
                refine GT_st_g rfl rfl rfl rfl rfl rfl rfl (V_pick_t rfl rfl rfl) ?_
                refine GT_st rfl rfl rfl rfl (V_pick_f rfl rfl rfl) ?_
                refine GT_st rfl rfl rfl rfl (V_move rfl rfl) ?_
                refine GT_st_g rfl rfl rfl rfl rfl rfl rfl (V_move rfl rfl) ?_
                refine GT_st_g rfl rfl rfl rfl rfl rfl rfl (V_move rfl rfl) ?_
                refine GT_st_g rfl rfl rfl rfl rfl rfl rfl (V_eql rfl rfl rfl) ?_
                refine GT_st_g rfl rfl rfl rfl rfl rfl rfl (V_move rfl rfl) ?_
                first | refine GT_splitNot (d := 154) rfl (fun h8 => ?_) (fun h8 => ?_) | refine GT_split (d := 154) rfl (fun h8 => ?_) (fun h8 => ?_) | refine GT_splitNotB (d := 154) rfl (fun h8 => ?_) (fun h8 => ?_) | refine GT_splitB (d := 154) rfl (fun h8 => ?_) (fun h8 => ?_)
                · skip
                  refine GT_st_g rfl rfl rfl rfl rfl rfl rfl (V_move rfl rfl) ?_
                  refine GT_st_g rfl rfl rfl rfl rfl rfl rfl (V_move rfl rfl) ?_
                  refine GT_st_g rfl rfl rfl rfl rfl rfl rfl (V_isF (V_neq rfl rfl rfl) (fun q => q (by have : k = tightTo b l R l.length := (by dsimp only at h8; omega); rw [← this]))) ?_
                  refine GT_st_g rfl rfl rfl rfl rfl rfl rfl (V_pick_t rfl rfl rfl) ?_
                  refine GT_st rfl rfl rfl rfl (V_pick_f rfl rfl rfl) ?_
                  refine GT_st rfl rfl rfl rfl (V_move rfl rfl) ?_
                  refine GT_st_g rfl rfl rfl rfl rfl rfl rfl (V_move rfl rfl) ?_
                  first | refine GT_st_g rfl rfl rfl rfl rfl rfl rfl (V_field rfl rfl fo_23_0) ?_ | refine GT_st_g rfl rfl rfl rfl rfl rfl rfl (V_fieldA rfl rfl fo_23_0) ?_
                  refine GT_st_g rfl rfl rfl rfl rfl rfl rfl (V_load rfl rfl ag_2 (CellAt.item rfl)) ?_
                  first | refine GT_st_g rfl rfl rfl rfl rfl rfl rfl (V_field rfl rfl fo_23_4) ?_ | refine GT_st_g rfl rfl rfl rfl rfl rfl rfl (V_fieldA rfl rfl fo_23_4) ?_
                  refine GT_st_g rfl rfl rfl rfl rfl rfl rfl (V_load rfl rfl ag_2 (CellAt.item rfl)) ?_
                  refine GT_st_g rfl rfl rfl rfl rfl rfl rfl (V_mul rfl rfl rfl (wrap_i64 (by omega))) ?_
                  refine GT_st_g rfl rfl rfl rfl rfl rfl rfl (V_isF (V_lss rfl rfl rfl) (by omega)) ?_
                  refine GT_st rfl rfl rfl rfl (V_pick_f rfl rfl rfl) ?_
                  refine GT_st rfl rfl rfl rfl (V_move rfl rfl) ?_
                  refine GT_st_g rfl rfl rfl rfl rfl rfl rfl (V_move rfl rfl) ?_
                  first | refine GT_st_g rfl rfl rfl rfl rfl rfl rfl (V_field rfl rfl fo_23_0) ?_ | refine GT_st_g rfl rfl rfl rfl rfl rfl rfl (V_fieldA rfl rfl fo_23_0) ?_
                  refine GT_st_g rfl rfl rfl rfl rfl rfl rfl (V_load rfl rfl ag_2 (CellAt.item rfl)) ?_
                  first | refine GT_st_g rfl rfl rfl rfl rfl rfl rfl (V_field rfl rfl fo_23_5) ?_ | refine GT_st_g rfl rfl rfl rfl rfl rfl rfl (V_fieldA rfl rfl fo_23_5) ?_
                  refine GT_st_g rfl rfl rfl rfl rfl rfl rfl (V_load rfl rfl ag_2 (CellAt.item rfl)) ?_
                  refine GT_st_g rfl rfl rfl rfl rfl rfl rfl (V_mul rfl rfl rfl (wrap_i64 (by omega))) ?_
                  refine GT_st_g rfl rfl rfl rfl rfl rfl rfl (V_isF (V_gtr rfl rfl rfl) (by omega)) ?_
                  refine GT_st rfl rfl rfl rfl (V_pick_f rfl rfl rfl) ?_
                  refine GT_nil ?_
                  refine GE_cond_f rfl ?_
                  refine GE_skip ?_
                  refine GE_inBlock ?_
                  refine GE_slots (L' := [(1, _), (2, _), (5, _), (7, _), (8, _), (10, _), (89, _), (90, _), (91, _), (92, _), (93, _), (94, _), (95, _), (96, _), (97, _), (98, _), (99, _), (100, _), (101, _), (130, _), (131, _), (132, _), (133, _), (136, _), (137, _), (138, _), (141, _), (142, _), (143, _), (144, _), (145, _), (146, _), (147, _), (148, _), (151, _), (152, _), (153, _), (154, _), (155, _), (156, _), (157, _), (158, _), (161, _), (162, _), (163, _), (164, _), (165, _), (166, _), (167, _), (170, _), (171, _), (172, _), (173, _), (174, _), (175, _), (176, _)]) ⟨rfl, rfl, rfl, rfl, rfl, rfl, rfl, rfl, rfl, rfl, rfl, rfl, rfl, rfl, rfl, rfl, rfl, rfl, rfl, rfl, rfl, rfl, rfl, rfl, rfl, rfl, rfl, rfl, rfl, rfl, rfl, rfl, rfl, rfl, rfl, rfl, rfl, rfl, rfl, rfl, rfl, rfl, rfl, rfl, rfl, rfl, rfl, rfl, rfl, rfl, rfl, rfl, rfl, rfl, rfl, rfl, trivial⟩ ?_
                  refine GE_plain (.st 0 (.st 1 (.ld 2 [] .nil))) rfl ?_
                  refine GT_st rfl rfl rfl rfl (V_move rfl rfl) ?_
                  refine GT_st rfl rfl rfl rfl (V_add rfl rfl rfl (wrap_i64 (by omega))) ?_
                  refine GT_ldv rfl rfl rfl rfl rfl (V_assign rfl rfl) (GR_nil) ?_
                  refine GT_nil ?_
                  first
                    | exact GE_to (ih (k + 1) (by omega) (by omega)) ⟨rfl, rfl, rfl, rfl, rfl, rfl, trivial⟩ (HS.chunk (HS.cons rfl HS.nil))
                    | exact GE_to (ih (k + 1) (by omega) (by omega)) ⟨rfl, rfl, rfl, lookI rfl (by rw [hT]), lookI rfl (by rw [hT]), rfl, trivial⟩ (HS.chunk (HS.cons rfl HS.nil))
                · skip
                  refine GT_skip rfl rfl rfl rfl rfl (by decide) rfl rfl ?_
                  refine GT_skip rfl rfl rfl rfl rfl (by decide) rfl rfl ?_
                  refine GT_skip rfl rfl rfl rfl rfl (by decide) rfl rfl ?_
                  refine GT_st_g rfl rfl rfl rfl rfl rfl rfl (V_pick_f rfl rfl rfl) ?_
                  refine GT_st rfl rfl rfl rfl (V_pick_f rfl rfl rfl) ?_
                  refine GT_st rfl rfl rfl rfl (V_move rfl rfl) ?_
                  refine GT_st_g rfl rfl rfl rfl rfl rfl rfl (V_move rfl rfl) ?_
                  first | refine GT_st_g rfl rfl rfl rfl rfl rfl rfl (V_field rfl rfl fo_23_0) ?_ | refine GT_st_g rfl rfl rfl rfl rfl rfl rfl (V_fieldA rfl rfl fo_23_0) ?_
                  refine GT_st_g rfl rfl rfl rfl rfl rfl rfl (V_load rfl rfl ag_2 (CellAt.item rfl)) ?_
                  first | refine GT_st_g rfl rfl rfl rfl rfl rfl rfl (V_field rfl rfl fo_23_4) ?_ | refine GT_st_g rfl rfl rfl rfl rfl rfl rfl (V_fieldA rfl rfl fo_23_4) ?_
                  refine GT_st_g rfl rfl rfl rfl rfl rfl rfl (V_load rfl rfl ag_2 (CellAt.item rfl)) ?_
                  refine GT_st_g rfl rfl rfl rfl rfl rfl rfl (V_mul rfl rfl rfl (wrap_i64 (by omega))) ?_
                  refine GT_st_g rfl rfl rfl rfl rfl rfl rfl (V_isF (V_lss rfl rfl rfl) (by omega)) ?_
                  refine GT_st rfl rfl rfl rfl (V_pick_f rfl rfl rfl) ?_
                  refine GT_st rfl rfl rfl rfl (V_move rfl rfl) ?_
                  refine GT_st_g rfl rfl rfl rfl rfl rfl rfl (V_move rfl rfl) ?_
                  first | refine GT_st_g rfl rfl rfl rfl rfl rfl rfl (V_field rfl rfl fo_23_0) ?_ | refine GT_st_g rfl rfl rfl rfl rfl rfl rfl (V_fieldA rfl rfl fo_23_0) ?_
                  refine GT_st_g rfl rfl rfl rfl rfl rfl rfl (V_load rfl rfl ag_2 (CellAt.item rfl)) ?_
                  first | refine GT_st_g rfl rfl rfl rfl rfl rfl rfl (V_field rfl rfl fo_23_5) ?_ | refine GT_st_g rfl rfl rfl rfl rfl rfl rfl (V_fieldA rfl rfl fo_23_5) ?_
                  refine GT_st_g rfl rfl rfl rfl rfl rfl rfl (V_load rfl rfl ag_2 (CellAt.item rfl)) ?_
                  refine GT_st_g rfl rfl rfl rfl rfl rfl rfl (V_mul rfl rfl rfl (wrap_i64 (by omega))) ?_
                  refine GT_st_g rfl rfl rfl rfl rfl rfl rfl (V_isF (V_gtr rfl rfl rfl) (by omega)) ?_
                  refine GT_st rfl rfl rfl rfl (V_pick_f rfl rfl rfl) ?_
                  refine GT_nil ?_
                  refine GE_cond_f rfl ?_
                  refine GE_skip ?_
                  refine GE_inBlock ?_
                  refine GE_slots (L' := [(1, _), (2, _), (5, _), (7, _), (8, _), (10, _), (89, _), (90, _), (91, _), (92, _), (93, _), (94, _), (95, _), (96, _), (97, _), (98, _), (99, _), (100, _), (101, _), (130, _), (131, _), (132, _), (133, _), (136, _), (137, _), (138, _), (141, _), (142, _), (143, _), (144, _), (145, _), (146, _), (147, _), (148, _), (151, _), (152, _), (153, _), (154, _), (155, _), (156, _), (157, _), (158, _), (161, _), (162, _), (163, _), (164, _), (165, _), (166, _), (167, _), (170, _), (171, _), (172, _), (173, _), (174, _), (175, _), (176, _)]) ⟨rfl, rfl, rfl, rfl, rfl, rfl, rfl, rfl, rfl, rfl, rfl, rfl, rfl, rfl, rfl, rfl, rfl, rfl, rfl, rfl, rfl, rfl, rfl, rfl, rfl, rfl, rfl, rfl, rfl, rfl, rfl, rfl, rfl, rfl, rfl, rfl, rfl, rfl, rfl, rfl, rfl, rfl, rfl, rfl, rfl, rfl, rfl, rfl, rfl, rfl, rfl, rfl, rfl, rfl, rfl, rfl, trivial⟩ ?_
                  refine GE_plain (.st 0 (.st 1 (.ld 2 [] .nil))) rfl ?_
                  refine GT_st rfl rfl rfl rfl (V_move rfl rfl) ?_
                  refine GT_st rfl rfl rfl rfl (V_add rfl rfl rfl (wrap_i64 (by omega))) ?_
                  refine GT_ldv rfl rfl rfl rfl rfl (V_assign rfl rfl) (GR_nil) ?_
                  refine GT_nil ?_
                  first
                    | exact GE_to (ih (k + 1) (by omega) (by omega)) ⟨rfl, rfl, rfl, rfl, rfl, rfl, trivial⟩ (HS.chunk (HS.cons rfl HS.nil))
                    | exact GE_to (ih (k + 1) (by omega) (by omega)) ⟨rfl, rfl, rfl, lookI rfl (by rw [hT]), lookI rfl (by rw [hT]), rfl, trivial⟩ (HS.chunk (HS.cons rfl HS.nil))
              · skip
                refine GT_skip rfl rfl rfl rfl rfl (by decide) rfl rfl ?_
                refine GT_skip rfl rfl rfl rfl rfl (by decide) rfl rfl ?_
                refine GT_skip rfl rfl rfl rfl rfl (by decide) rfl rfl ?_
                refine GT_st_g rfl rfl rfl rfl rfl rfl rfl (V_pick_f rfl rfl rfl) ?_
                refine GT_st rfl rfl rfl rfl (V_pick_f rfl rfl rfl) ?_
                refine GT_st rfl rfl rfl rfl (V_move rfl rfl) ?_
                refine GT_st_g rfl rfl rfl rfl rfl rfl rfl (V_move rfl rfl) ?_
                refine GT_st_g rfl rfl rfl rfl rfl rfl rfl (V_move rfl rfl) ?_
                refine GT_st_g rfl rfl rfl rfl rfl rfl rfl (V_eql rfl rfl rfl) ?_
                refine GT_st_g rfl rfl rfl rfl rfl rfl rfl (V_move rfl rfl) ?_
                first | refine GT_splitNot (d := 154) rfl (fun h8 => ?_) (fun h8 => ?_) | refine GT_split (d := 154) rfl (fun h8 => ?_) (fun h8 => ?_) | refine GT_splitNotB (d := 154) rfl (fun h8 => ?_) (fun h8 => ?_) | refine GT_splitB (d := 154) rfl (fun h8 => ?_) (fun h8 => ?_)
                · skip
                  refine GT_st_g rfl rfl rfl rfl rfl rfl rfl (V_move rfl rfl) ?_
                  refine GT_st_g rfl rfl rfl rfl rfl rfl rfl (V_move rfl rfl) ?_
                  refine GT_st_g rfl rfl rfl rfl rfl rfl rfl (V_isF (V_neq rfl rfl rfl) (fun q => q (by have : k = tightTo b l R l.length := (by dsimp only at h8; omega); rw [← this]))) ?_
                  refine GT_st_g rfl rfl rfl rfl rfl rfl rfl (V_pick_t rfl rfl rfl) ?_
                  refine GT_st rfl rfl rfl rfl (V_pick_f rfl rfl rfl) ?_
                  refine GT_st rfl rfl rfl rfl (V_move rfl rfl) ?_
                  refine GT_st_g rfl rfl rfl rfl rfl rfl rfl (V_move rfl rfl) ?_
                  first | refine GT_st_g rfl rfl rfl rfl rfl rfl rfl (V_field rfl rfl fo_23_0) ?_ | refine GT_st_g rfl rfl rfl rfl rfl rfl rfl (V_fieldA rfl rfl fo_23_0) ?_
                  refine GT_st_g rfl rfl rfl rfl rfl rfl rfl (V_load rfl rfl ag_2 (CellAt.item rfl)) ?_
                  first | refine GT_st_g rfl rfl rfl rfl rfl rfl rfl (V_field rfl rfl fo_23_4) ?_ | refine GT_st_g rfl rfl rfl rfl rfl rfl rfl (V_fieldA rfl rfl fo_23_4) ?_
                  refine GT_st_g rfl rfl rfl rfl rfl rfl rfl (V_load rfl rfl ag_2 (CellAt.item rfl)) ?_
                  refine GT_st_g rfl rfl rfl rfl rfl rfl rfl (V_mul rfl rfl rfl (wrap_i64 (by omega))) ?_
                  refine GT_st_g rfl rfl rfl rfl rfl rfl rfl (V_isF (V_lss rfl rfl rfl) (by omega)) ?_
                  refine GT_st rfl rfl rfl rfl (V_pick_f rfl rfl rfl) ?_
                  refine GT_st rfl rfl rfl rfl (V_move rfl rfl) ?_
                  refine GT_st_g rfl rfl rfl rfl rfl rfl rfl (V_move rfl rfl) ?_
                  first | refine GT_st_g rfl rfl rfl rfl rfl rfl rfl (V_field rfl rfl fo_23_0) ?_ | refine GT_st_g rfl rfl rfl rfl rfl rfl rfl (V_fieldA rfl rfl fo_23_0) ?_
                  refine GT_st_g rfl rfl rfl rfl rfl rfl rfl (V_load rfl rfl ag_2 (CellAt.item rfl)) ?_
                  first | refine GT_st_g rfl rfl rfl rfl rfl rfl rfl (V_field rfl rfl fo_23_5) ?_ | refine GT_st_g rfl rfl rfl rfl rfl rfl rfl (V_fieldA rfl rfl fo_23_5) ?_
                  refine GT_st_g rfl rfl rfl rfl rfl rfl rfl (V_load rfl rfl ag_2 (CellAt.item rfl)) ?_
                  refine GT_st_g rfl rfl rfl rfl rfl rfl rfl (V_mul rfl rfl rfl (wrap_i64 (by omega))) ?_
                  refine GT_st_g rfl rfl rfl rfl rfl rfl rfl (V_isF (V_gtr rfl rfl rfl) (by omega)) ?_
                  refine GT_st rfl rfl rfl rfl (V_pick_f rfl rfl rfl) ?_
                  refine GT_nil ?_
                  refine GE_cond_f rfl ?_
                  refine GE_skip ?_
                  refine GE_inBlock ?_
                  refine GE_slots (L' := [(1, _), (2, _), (5, _), (7, _), (8, _), (10, _), (89, _), (90, _), (91, _), (92, _), (93, _), (94, _), (95, _), (96, _), (97, _), (98, _), (99, _), (100, _), (101, _), (130, _), (131, _), (132, _), (133, _), (136, _), (137, _), (138, _), (141, _), (142, _), (143, _), (144, _), (145, _), (146, _), (147, _), (148, _), (151, _), (152, _), (153, _), (154, _), (155, _), (156, _), (157, _), (158, _), (161, _), (162, _), (163, _), (164, _), (165, _), (166, _), (167, _), (170, _), (171, _), (172, _), (173, _), (174, _), (175, _), (176, _)]) ⟨rfl, rfl, rfl, rfl, rfl, rfl, rfl, rfl, rfl, rfl, rfl, rfl, rfl, rfl, rfl, rfl, rfl, rfl, rfl, rfl, rfl, rfl, rfl, rfl, rfl, rfl, rfl, rfl, rfl, rfl, rfl, rfl, rfl, rfl, rfl, rfl, rfl, rfl, rfl, rfl, rfl, rfl, rfl, rfl, rfl, rfl, rfl, rfl, rfl, rfl, rfl, rfl, rfl, rfl, rfl, rfl, trivial⟩ ?_
                  refine GE_plain (.st 0 (.st 1 (.ld 2 [] .nil))) rfl ?_
                  refine GT_st rfl rfl rfl rfl (V_move rfl rfl) ?_
                  refine GT_st rfl rfl rfl rfl (V_add rfl rfl rfl (wrap_i64 (by omega))) ?_
                  refine GT_ldv rfl rfl rfl rfl rfl (V_assign rfl rfl) (GR_nil) ?_
                  refine GT_nil ?_
                  first
                    | exact GE_to (ih (k + 1) (by omega) (by omega)) ⟨rfl, rfl, rfl, rfl, rfl, rfl, trivial⟩ (HS.chunk (HS.cons rfl HS.nil))
                    | exact GE_to (ih (k + 1) (by omega) (by omega)) ⟨rfl, rfl, rfl, lookI rfl (by rw [hT]), lookI rfl (by rw [hT]), rfl, trivial⟩ (HS.chunk (HS.cons rfl HS.nil))
                · skip
                  refine GT_skip rfl rfl rfl rfl rfl (by decide) rfl rfl ?_
                  refine GT_skip rfl rfl rfl rfl rfl (by decide) rfl rfl ?_
                  refine GT_skip rfl rfl rfl rfl rfl (by decide) rfl rfl ?_
                  refine GT_st_g rfl rfl rfl rfl rfl rfl rfl (V_pick_f rfl rfl rfl) ?_
                  refine GT_st rfl rfl rfl rfl (V_pick_f rfl rfl rfl) ?_
                  refine GT_st rfl rfl rfl rfl (V_move rfl rfl) ?_
                  refine GT_st_g rfl rfl rfl rfl rfl rfl rfl (V_move rfl rfl) ?_
                  first | refine GT_st_g rfl rfl rfl rfl rfl rfl rfl (V_field rfl rfl fo_23_0) ?_ | refine GT_st_g rfl rfl rfl rfl rfl rfl rfl (V_fieldA rfl rfl fo_23_0) ?_
                  refine GT_st_g rfl rfl rfl rfl rfl rfl rfl (V_load rfl rfl ag_2 (CellAt.item rfl)) ?_
                  first | refine GT_st_g rfl rfl rfl rfl rfl rfl rfl (V_field rfl rfl fo_23_4) ?_ | refine GT_st_g rfl rfl rfl rfl rfl rfl rfl (V_fieldA rfl rfl fo_23_4) ?_
                  refine GT_st_g rfl rfl rfl rfl rfl rfl rfl (V_load rfl rfl ag_2 (CellAt.item rfl)) ?_
                  refine GT_st_g rfl rfl rfl rfl rfl rfl rfl (V_mul rfl rfl rfl (wrap_i64 (by omega))) ?_
                  refine GT_st_g rfl rfl rfl rfl rfl rfl rfl (V_isF (V_lss rfl rfl rfl) (by omega)) ?_
                  refine GT_st rfl rfl rfl rfl (V_pick_f rfl rfl rfl) ?_
                  refine GT_st rfl rfl rfl rfl (V_move rfl rfl) ?_
                  refine GT_st_g rfl rfl rfl rfl rfl rfl rfl (V_move rfl rfl) ?_
                  first | refine GT_st_g rfl rfl rfl rfl rfl rfl rfl (V_field rfl rfl fo_23_0) ?_ | refine GT_st_g rfl rfl rfl rfl rfl rfl rfl (V_fieldA rfl rfl fo_23_0) ?_
                  refine GT_st_g rfl rfl rfl rfl rfl rfl rfl (V_load rfl rfl ag_2 (CellAt.item rfl)) ?_
                  first | refine GT_st_g rfl rfl rfl rfl rfl rfl rfl (V_field rfl rfl fo_23_5) ?_ | refine GT_st_g rfl rfl rfl rfl rfl rfl rfl (V_fieldA rfl rfl fo_23_5) ?_
                  refine GT_st_g rfl rfl rfl rfl rfl rfl rfl (V_load rfl rfl ag_2 (CellAt.item rfl)) ?_
                  refine GT_st_g rfl rfl rfl rfl rfl rfl rfl (V_mul rfl rfl rfl (wrap_i64 (by omega))) ?_
                  refine GT_st_g rfl rfl rfl rfl rfl rfl rfl (V_isF (V_gtr rfl rfl rfl) (by omega)) ?_
                  refine GT_st rfl rfl rfl rfl (V_pick_f rfl rfl rfl) ?_
                  refine GT_nil ?_
                  refine GE_cond_f rfl ?_
                  refine GE_skip ?_
                  refine GE_inBlock ?_
                  refine GE_slots (L' := [(1, _), (2, _), (5, _), (7, _), (8, _), (10, _), (89, _), (90, _), (91, _), (92, _), (93, _), (94, _), (95, _), (96, _), (97, _), (98, _), (99, _), (100, _), (101, _), (130, _), (131, _), (132, _), (133, _), (136, _), (137, _), (138, _), (141, _), (142, _), (143, _), (144, _), (145, _), (146, _), (147, _), (148, _), (151, _), (152, _), (153, _), (154, _), (155, _), (156, _), (157, _), (158, _), (161, _), (162, _), (163, _), (164, _), (165, _), (166, _), (167, _), (170, _), (171, _), (172, _), (173, _), (174, _), (175, _), (176, _)]) ⟨rfl, rfl, rfl, rfl, rfl, rfl, rfl, rfl, rfl, rfl, rfl, rfl, rfl, rfl, rfl, rfl, rfl, rfl, rfl, rfl, rfl, rfl, rfl, rfl, rfl, rfl, rfl, rfl, rfl, rfl, rfl, rfl, rfl, rfl, rfl, rfl, rfl, rfl, rfl, rfl, rfl, rfl, rfl, rfl, rfl, rfl, rfl, rfl, rfl, rfl, rfl, rfl, rfl, rfl, rfl, rfl, trivial⟩ ?_
                  refine GE_plain (.st 0 (.st 1 (.ld 2 [] .nil))) rfl ?_
                  refine GT_st rfl rfl rfl rfl (V_move rfl rfl) ?_
                  refine GT_st rfl rfl rfl rfl (V_add rfl rfl rfl (wrap_i64 (by omega))) ?_
                  refine GT_ldv rfl rfl rfl rfl rfl (V_assign rfl rfl) (GR_nil) ?_
                  refine GT_nil ?_
                  first
                    | exact GE_to (ih (k + 1) (by omega) (by omega)) ⟨rfl, rfl, rfl, rfl, rfl, rfl, trivial⟩ (HS.chunk (HS.cons rfl HS.nil))
                    | exact GE_to (ih (k + 1) (by omega) (by omega)) ⟨rfl, rfl, rfl, lookI rfl (by rw [hT]), lookI rfl (by rw [hT]), rfl, trivial⟩ (HS.chunk (HS.cons rfl HS.nil))
          · skip
            refine GE_exit rfl ?_
            refine GE_seq ?_
            refine GE_slots (L' := []) trivial ?_
            refine GE_plain (.ld 0 [] (.st 1 .nil)) rfl ?_
            refine GT_call0 rfl rfl rfl rfl rfl rfl rfl rfl rn_16 (fun w hw => C_law05_Works) (GR_nil) ?_
            refine GT_st rfl rfl rfl rfl (V_assign rfl rfl) ?_
            refine GT_nil ?_
            refine GE_ret Try.func11 rfl (fun w hw => ⟨?_, hw.nil⟩)
            rfl
        · exact Nat.zero_le _
      · skip
        refine GE_seq ?_
        refine GE_slots (L' := [(1, _), (2, _), (5, _), (7, _), (8, _), (9, _)]) ⟨rfl, rfl, rfl, rfl, rfl, rfl, trivial⟩ ?_
        refine GE_plain (.st 0 (.st 1 (.st 2 (.st 3 (.st 4 (.st 5 (.st 6 (.st 7 (.st 8 (.st 9 (.st 10 (.st 11 (.st 12 (.st 13 (.st 14 (.st 15 (.st 16 (.st 17 (.st 18 (.st 19 (.st 20 (.st 21 (.st 22 (.st 23 .nil)))))))))))))))))))))))) rfl ?_
        refine GT_st rfl rfl rfl rfl (V_move rfl rfl) ?_
        refine GT_st rfl rfl rfl rfl (V_eql rfl rfl rfl) ?_
        refine GT_st rfl rfl rfl rfl (V_move rfl rfl) ?_
        refine GT_st rfl rfl rfl rfl (V_len rfl Try.underlying24 rfl) ?_
        first | refine GT_st rfl rfl rfl rfl (V_field rfl rfl fo_23_0) ?_ | refine GT_st rfl rfl rfl rfl (V_fieldA rfl rfl fo_23_0) ?_
        refine GT_st rfl rfl rfl rfl (V_load rfl rfl ag_2 (CellAt.item rfl)) ?_
        refine GT_st rfl rfl rfl rfl (V_gtr rfl rfl rfl) ?_
        refine GT_st rfl rfl rfl rfl (V_neqBB_same rfl rfl rfl Try.underlying4 herr) ?_
        refine GT_st rfl rfl rfl rfl (V_move rfl rfl) ?_
        refine GT_st_g rfl rfl rfl rfl rfl rfl rfl (V_move rfl rfl) ?_
        refine GT_st_g rfl rfl rfl rfl rfl rfl rfl (V_eql rfl rfl rfl) ?_
        refine GT_st_g rfl rfl rfl rfl rfl rfl rfl (V_move rfl rfl) ?_
        first | refine GT_splitNot (d := 56) rfl (fun h4 => ?_) (fun h4 => ?_) | refine GT_split (d := 56) rfl (fun h4 => ?_) (fun h4 => ?_) | refine GT_splitNotB (d := 56) rfl (fun h4 => ?_) (fun h4 => ?_) | refine GT_splitB (d := 56) rfl (fun h4 => ?_) (fun h4 => ?_)
        · have hpl : b.per < (l.length : Int) := (by have := herr; rw [decide_eq_true h4] at this; exact of_decide_eq_true this.symm); have hT := htt hpl; have t4 := t3 (by omega)
          refine GT_st_g rfl rfl rfl rfl rfl rfl rfl (V_move rfl rfl) ?_
          first | refine GT_st_g rfl rfl rfl rfl rfl rfl rfl (V_field rfl rfl fo_23_0) ?_ | refine GT_st_g rfl rfl rfl rfl rfl rfl rfl (V_fieldA rfl rfl fo_23_0) ?_
          refine GT_st_g rfl rfl rfl rfl rfl rfl rfl (V_load rfl rfl ag_2 (CellAt.item rfl)) ?_
          refine GT_st_g rfl rfl rfl rfl rfl rfl rfl (V_isF (V_lss rfl rfl rfl) (by rw [hT]; dsimp only; omega)) ?_
          refine GT_st_g rfl rfl rfl rfl rfl rfl rfl (V_move rfl rfl) ?_
          refine GT_st_g rfl rfl rfl rfl rfl rfl rfl (V_move rfl rfl) ?_
          refine GT_st_g rfl rfl rfl rfl rfl rfl rfl (V_move rfl rfl) ?_
          refine GT_st_g rfl rfl rfl rfl rfl rfl rfl (V_len rfl Try.underlying24 rfl) ?_
          refine GT_st_g rfl rfl rfl rfl rfl rfl rfl (V_isF (V_geq rfl rfl rfl) (by rw [hT]; dsimp only; omega)) ?_
          refine GT_st_g rfl rfl rfl rfl rfl rfl rfl (V_pick_f rfl rfl rfl) ?_
          refine GT_st_g rfl rfl rfl rfl rfl rfl rfl (V_pick_t rfl rfl rfl) ?_
          refine GT_st rfl rfl rfl rfl (V_pick_f rfl rfl rfl) ?_
          refine GT_nil ?_
          refine GE_cond_f rfl ?_
          refine GE_skip ?_
          exact GE_to (hk () trivial) ⟨rfl, rfl, rfl, rfl, rfl, trivial⟩ (HS.chunk (HS.cons rfl HS.nil))
        · skip
          refine GT_skip rfl rfl rfl rfl rfl (by decide) rfl rfl ?_
          refine GT_skip rfl rfl rfl rfl rfl (by decide) rfl rfl ?_
          refine GT_skip rfl rfl rfl rfl rfl (by decide) rfl rfl ?_
          refine GT_skip rfl rfl rfl rfl rfl (by decide) rfl rfl ?_
          refine GT_skip rfl rfl rfl rfl rfl (by decide) rfl rfl ?_
          refine GT_skip rfl rfl rfl rfl rfl (by decide) rfl rfl ?_
          refine GT_skip rfl rfl rfl rfl rfl (by decide) rfl rfl ?_
          refine GT_skip rfl rfl rfl rfl rfl (by decide) rfl rfl ?_
          refine GT_skip rfl rfl rfl rfl rfl (by decide) rfl rfl ?_
          refine GT_skip rfl rfl rfl rfl rfl (by decide) rfl rfl ?_
          refine GT_st_g rfl rfl rfl rfl rfl rfl rfl (V_pick_f rfl rfl rfl) ?_
          refine GT_st rfl rfl rfl rfl (V_pick_f rfl rfl rfl) ?_
          refine GT_nil ?_
          refine GE_cond_f rfl ?_
          refine GE_skip ?_
          exact GE_to (hk () trivial) ⟨rfl, rfl, rfl, rfl, rfl, trivial⟩ (HS.chunk (HS.cons rfl HS.nil))
end Go.Proofs.Ytacmnmcaeflflaa
