/- The lathe's check of a cut: the first rule that is not kept, walked. -/
import Derived.Test.YtacmnmcaeflflaaLa9
namespace Go.Proofs.Ytacmnmcaeflflaa
open Go.Sx Go.Proofs

/-- a step that is one of a groove's -/
def StpIn (l : List Pt) (s : Stp) : Prop := In l.length s.samp ∧ 1 ≤ s.rule ∧ s.rule ≤ 5
theorem mem_stepList {l : List Pt} {s : Stp} (h : s ∈ stepList l) : StpIn l s := by
  simp only [stepList, stepTo, List.range_zero, List.map_nil, List.append_nil, List.mem_flatMap, List.mem_range, List.mem_map] at h
  obtain ⟨i, hi, q, hq, rfl⟩ := h
  exact ⟨⟨by dsimp only; omega, by dsimp only; omega⟩, by dsimp only; omega, by dsimp only; omega⟩

theorem C_CheckCut1 {b : Blank} {A A2 : Option Addr} {l : List Pt} {r : List Int} {c c2 bs cs bp : Nat} {s : Stp} {w : World} (hs : SideAt w bs b A l c) (hcs : BlkAt w cs [ptr bs 0, .slice A2 r.length c2] 84) (hbp : BlkAt w bp [ptr cs 0] 75) (hp : RdL w 2 ePt A l) (hr : RdL w 1 eI A2 r) (he : cutE b l r = 0) (hin : StpIn l s) :
    Con0 Try.prog 45 [.agg (eStp s).toArray, ptr bp 0] w (.bool (bad b l r s)) := by
  obtain ⟨rule, samp⟩ := s
  obtain ⟨hi, hru⟩ := hin
  unfold In at hi
  dsimp only at hi hru
  obtain ⟨i, rfl⟩ : ∃ i : Nat, samp = i := ⟨samp.toNat, by omega⟩
  refine Ret_of (vs := [_, _]) hm none' Try.func45 rfl Try.ntmps45 rfl ?_
  dsimp only [slotsOf]
  refine GE_seq ?_
  refine GE_plain (.ld 0 [] (.st 1 .nil)) rfl ?_
  refine GT_box (z := [_, _]) rfl rfl rfl rfl rfl rfl rfl (fun _ => GR_nil) (fun b2 => ?_)
  refine GT_st rfl rfl rfl rfl (V_assign rfl rfl) ?_
  refine GT_nil ?_
  refine GE_seq ?_
  refine GE_plain (.st 0 (.st 1 (.st 2 (.st 3 (.st 4 (.ld 5 [] (.st 6 (.st 7 .nil)))))))) rfl ?_
  first | refine GT_st rfl rfl rfl rfl (V_load rfl rfl ag_75 (CellAt.item rfl)) ?_ | refine GT_st rfl rfl rfl rfl (V_load rfl rfl ag_75 (CellAt.old (hbp.cell rfl) (noM _))) ?_
  first | refine GT_st rfl rfl rfl rfl (V_field rfl rfl fo_62_0) ?_ | refine GT_st rfl rfl rfl rfl (V_fieldA rfl rfl fo_62_0) ?_
  first | refine GT_st rfl rfl rfl rfl (V_load rfl rfl ag_3 (CellAt.item rfl)) ?_ | refine GT_st rfl rfl rfl rfl (V_load rfl rfl ag_3 (CellAt.old (hbp.cell rfl) (noM _))) ?_
  first | refine GT_st rfl rfl rfl rfl (V_field rfl rfl fo_62_1) ?_ | refine GT_st rfl rfl rfl rfl (V_fieldA rfl rfl fo_62_1) ?_
  first | refine GT_st rfl rfl rfl rfl (V_load rfl rfl ag_3 (CellAt.item rfl)) ?_ | refine GT_st rfl rfl rfl rfl (V_load rfl rfl ag_3 (CellAt.old (hbp.cell rfl) (noM _))) ?_
  refine GT_call0 rfl rfl rfl rfl rfl rfl rfl rfl rn_46 (fun w hw => C_lathe_keeps (hs.sh hw) (hcs.sh hw) (hp.sh hw) (hr.sh hw) he (by omega) hru) (GR_nil) ?_
  first | refine GT_st rfl rfl rfl rfl (V_not rfl rfl) ?_ | refine GT_st rfl rfl rfl rfl (V_notB rfl rfl) ?_
  refine GT_st rfl rfl rfl rfl (V_assign rfl rfl) ?_
  refine GT_nil ?_
  refine GE_ret Try.func45 rfl (fun w hw => ⟨?_, hw.nil⟩)
  unfold bad; dsimp only; rw [Int.toNat_natCast]

set_option maxHeartbeats 1000000 in
theorem C_firstOf {b : Blank} {A A2 : Option Addr} {l : List Pt} {r : List Int} {c c2 bs cs bp bb : Nat} {w : World} (hs : SideAt w bs b A l c) (hbb : BlkAt w bb [ptr bs 0] 66) (hcs : BlkAt w cs [ptr bs 0, .slice A2 r.length c2] 84) (hbp : BlkAt w bp [ptr cs 0] 75) (hp : RdL w 2 ePt A l) (hr : RdL w 1 eI A2 r) (he : cutE b l r = 0) :
    Con0 Try.prog 43 [.func (.func 66) #[] #[ptr bb 0], .func (.func 45) #[] #[ptr bp 0]] w (.tuple #[.agg (eStp ((firstBad b l r).getD ⟨0, 0⟩)).toArray, .bool (firstBad b l r).isSome]) := by
  obtain ⟨h0, hrl, hall⟩ := cutE_zero.1 he
  obtain ⟨hb, hl, hpt⟩ := both_zero.1 h0
  refine Ret_of (vs := [_, _]) hm none' Try.func43 rfl Try.ntmps43 rfl ?_
  dsimp only [slotsOf]
  refine GE_seq ?_
  refine GE_plain (.ld 0 [] (.ld 1 [] (.ld 2 [] .nil))) rfl ?_
  refine GT_box (z := [_]) rfl rfl rfl rfl rfl rfl rfl (fun _ => GR_nil) (fun b3 => ?_)
  refine GT_alloc rfl rfl rfl rfl rfl zc_62 (fun _ => GR_nil) (fun b4 => ?_)
  refine GT_alloc rfl rfl rfl rfl rfl zc_4 (fun _ => GR_nil) (fun b5 => ?_)
  refine GT_nil ?_
  refine GE_seq ?_
  refine GE_seq ?_
  refine GE_plain (.st 0 .nil) rfl ?_
  refine GT_st rfl rfl rfl rfl (V_move rfl rfl) ?_
  refine GT_nil ?_
  refine GE_block ?_
  refine GE_range rfl rfl rn_66 (fun T l5 q r0 hr0 hT hlk w hw => ?_)
  refine (C_steps1 (c := c) (lp := l5) (J := [(l5, .loop r0), (b4, blk (eStp ⟨0, 0⟩) 62), (b5, blk [.bool false] 4), (b3, blk [.func (.func 45) #[] #[ptr bp 0]] 86)]) (G := [(q, .deferred (some []))])
    (Q := fun pre J => pre.find? (bad b l r) = none ∧ J = [(l5, .loop r0), (b4, blk (eStp ⟨0, 0⟩) 62), (b5, blk [.bool false] 4), (b3, blk [.func (.func 45) #[] #[ptr bp 0]] 86)])
    (Qx := fun J => ∃ s, firstBad b l r = some s ∧ J = [(l5, .loop { r0 with state := .done, pending := some .ret }), (b4, blk (eStp s) 62), (b5, blk [.bool true] 4)])
    hs hbb hl ?_ ⟨rfl, rfl⟩ (hw.hs ((show HS _ _ [(l5, .loop r0), (b4, _), (b5, _), (b3, _), (q, .deferred (some []))] from HS.cons rfl (HS.cons rfl (HS.cons rfl (HS.cons rfl (HS.cons rfl HS.nil)))))))).mono (fun v w' ⟨J', hQ', hw'⟩ => ?_)
  · rintro pre x J hpre ⟨hpf, rfl⟩ G; subst hr0
    have hxin := mem_stepList (hpre.subset (List.mem_append_right _ (List.mem_singleton.2 rfl)))
    have hfs := find_snoc (s := x) hpf
    refine yield_of inferInstance rfl rfl hT hlk rfl rfl hm ?_
    refine GE_slots (L' := [(3, ptr b3 0), (4, ptr b4 0), (5, ptr b5 0), (8, .agg (eStp x).toArray)]) ⟨rfl, rfl, rfl, rfl, trivial⟩ ?_
    refine GE_plain (.ld 0 [] (.ld 1 [] .nil)) rfl ?_
    refine GT_alloc rfl rfl rfl rfl rfl zc_62 (fun _ => GR_nil) (fun b6 => ?_)
    refine GT_store (vs := [_, _]) (l' := [_, _]) rfl rfl rfl rfl rfl rfl rfl sz_62 rfl rfl (Nat.le_of_ble_eq_true rfl) rfl (GR_nil) ?_
    refine GT_nil ?_
    refine GE_beginRound rfl ?_
    refine GE_block ?_
    refine GE_seq ?_
    refine GE_plain (.st 0 (.st 1 (.ld 2 [] .nil))) rfl ?_
    refine GT_st rfl rfl rfl rfl (V_load rfl rfl ag_86 (CellAt.item rfl)) ?_
    refine GT_st rfl rfl rfl rfl (V_loadN (vs := [_, _]) rfl rfl ag_62 sz_62 rfl (CellsAt.item rfl)) ?_
    refine GT_call0 rfl rfl rfl rfl rfl rfl rfl rfl rn_45 (fun w hw => C_CheckCut1 (hs.sh hw) (hcs.sh hw) (hbp.sh hw) (hp.sh hw) (hr.sh hw) he hxin) (GR_nil) ?_
    refine GT_nil ?_
    first | refine GE_condNot rfl (fun hbd => ?_) (fun hbd => ?_) | refine GE_cond rfl (fun hbd => ?_) (fun hbd => ?_) | refine GE_condNotB rfl (fun hbd => ?_) (fun hbd => ?_) | refine GE_condB rfl (fun hbd => ?_) (fun hbd => ?_)
    · rw [if_pos (by unfold bad; rw [hbd]; rfl)] at hfs
      refine GE_seq ?_
      refine GE_slots (L' := [(4, _), (5, _), (6, _)]) ⟨rfl, rfl, rfl, trivial⟩ ?_
      refine GE_plain (.st 0 (.ld 1 [] (.ld 2 [] .nil))) rfl ?_
      refine GT_st rfl rfl rfl rfl (V_loadN (vs := [_, _]) rfl rfl ag_62 sz_62 rfl (CellsAt.item rfl)) ?_
      refine GT_store (vs := [_, _]) (l' := [_, _]) rfl rfl rfl rfl rfl rfl rfl sz_62 rfl rfl (Nat.le_of_ble_eq_true rfl) rfl (GR_nil) ?_
      refine GT_store (vs := [_]) (l' := [_]) rfl rfl rfl rfl rfl rfl rfl sz_4 rfl rfl (Nat.le_of_ble_eq_true rfl) rfl (GR_nil) ?_
      refine GT_nil ?_
      refine GE_leave (some .ret) rfl (fun w hw => ⟨_, ⟨_, rfl, .inr ⟨rfl, x, hpre.find?_eq_some hfs, rfl⟩⟩, ?_⟩)
      exact hw.hs (HS.cons rfl (HS.cons rfl (HS.cons rfl (HS.last (I := G)))))
    · rw [if_neg (by unfold bad; rw [hbd]; decide)] at hfs
      refine GE_skip ?_
      refine GE_inBlock ?_
      refine GE_leave none rfl (fun w hw => ⟨_, ⟨_, rfl, .inl ⟨rfl, hfs, rfl⟩⟩, ?_⟩)
      exact hw.hs (HS.cons rfl (HS.cons rfl (HS.cons rfl (HS.cons rfl (HS.last (I := G))))))
  · subst hr0
    rcases hQ' with ⟨hfb, rfl⟩ | ⟨s, hfb, rfl⟩
    case inr =>
      refine ⟨_, [(b4, blk (eStp s) 62), (b5, blk [.bool true] 4)], ?_, hw'.hs (HS.cons rfl (HS.cons rfl (HS.cons rfl (HS.cons rfl HS.nil)))), ?_⟩
      · intro h; cases h
      refine GE_D (D' := dq [q]) ?_ rfl
      refine GE_retq Try.func43 ⟨_, _, ⟨_, rfl, fun w m => run_loadVar_agg (vs := [_, _]) ag_62 sz_62 rfl (fun j v hj => CellsAt.item rfl j v hj w m)⟩, ⟨_, rfl, fun w m => run_loadVar_one ag_4 (CellAt.item rfl w m)⟩, rfl⟩ (fun w hw => ?_)
      exact ⟨by rw [hfb]; rfl, hw.nil⟩
    have hfb : firstBad b l r = none := hfb
    refine ⟨_, [(b4, blk (eStp ⟨0, 0⟩) 62), (b5, blk [.bool false] 4)], ?_, hw'.hs (HS.cons rfl (HS.cons rfl (HS.cons rfl (HS.cons rfl HS.nil)))), ?_⟩
    · intro h; cases h
    refine GE_D (D' := dq [q]) ?_ rfl
    refine GE_inBlock ?_
    refine GE_seq ?_
    refine GE_slots (L' := [(4, _), (5, _)]) ⟨rfl, rfl, trivial⟩ ?_
    refine GE_plain (.st 0 (.ld 1 [] (.ld 2 [] .nil))) rfl ?_
    refine GT_st rfl rfl rfl rfl (V_loadN (vs := [_, _]) rfl rfl ag_62 sz_62 rfl (CellsAt.item rfl)) ?_
    refine GT_store (vs := [_, _]) (l' := [_, _]) rfl rfl rfl rfl rfl rfl rfl sz_62 rfl rfl (Nat.le_of_ble_eq_true rfl) rfl (GR_nil) ?_
    refine GT_store (vs := [_]) (l' := [_]) rfl rfl rfl rfl rfl rfl rfl sz_4 rfl rfl (Nat.le_of_ble_eq_true rfl) rfl (GR_nil) ?_
    refine GT_nil ?_
    refine GE_retq Try.func43 ⟨_, _, ⟨_, rfl, fun w m => run_loadVar_agg (vs := [_, _]) ag_62 sz_62 rfl (fun j v hj => CellsAt.item rfl j v hj w m)⟩, ⟨_, rfl, fun w m => run_loadVar_one ag_4 (CellAt.item rfl w m)⟩, rfl⟩ (fun w hw => ⟨?_, hw.nil⟩)
    rw [hfb]; rfl

theorem C_lathe_CheckCut {b : Blank} {A A2 : Option Addr} {l : List Pt} {r : List Int} {c c2 : Nat} {w : World} (hp : RdL w 2 ePt A l) (hr : RdL w 1 eI A2 r) (hlr : r.length ≤ 1099511627776) : Con0 Try.prog 19 [b.val, .slice A l.length c, .slice A2 r.length c2] w (.tuple #[I (cutRes b l r).1, I (cutRes b l r).2.1, I (cutRes b l r).2.2]) := by
  by_cases he : cutE b l r = 0
  · skip
    refine Ret_of (vs := [_, _, _]) hm none' Try.func19 rfl Try.ntmps19 rfl ?_
    dsimp only [slotsOf]
    refine GE_seq ?_
    refine GE_plain (.ld 0 [] (.st 1 (.st 2 (.st 3 .nil)))) rfl ?_
    refine GT_box (z := [_, _, _, _, _, _]) rfl rfl rfl rfl rfl rfl rfl (fun _ => GR_nil) (fun b3 => ?_)
    refine GT_st rfl rfl rfl rfl (V_assign rfl rfl) ?_
    refine GT_st rfl rfl rfl rfl (V_assign rfl rfl) ?_
    refine GT_st rfl rfl rfl rfl (V_assign rfl rfl) ?_
    refine GT_nil ?_
    refine GE_seq ?_
    refine GE_slots (L' := [(1, _), (2, _), (3, _)]) ⟨rfl, rfl, rfl, trivial⟩ ?_
    refine GE_plain (.st 0 (.st 1 (.st 2 (.ld 3 [] (.st 4 (.st 5 (.st 6 (.ld 7 [] (.ld 8 [] (.st 9 .nil)))))))))) rfl ?_
    refine GT_st rfl rfl rfl rfl (V_loadN (vs := [_, _, _, _, _, _]) rfl rfl ag_23 sz_23 rfl (CellsAt.item rfl)) ?_
    refine GT_st rfl rfl rfl rfl (V_move rfl rfl) ?_
    refine GT_st rfl rfl rfl rfl (V_move rfl rfl) ?_
    refine GT_call rfl rfl rfl rfl rfl rfl rfl rfl rn_42 (fun w hw => C_lathe_newCut_ok (hp.sh hw) (hr.sh hw) he) (fun _ _ => GR_nil) (fun x _ => ?_)
    obtain ⟨bs, bc⟩ := x; dsimp only
    refine GT_st rfl rfl rfl rfl (V_move rfl rfl) ?_
    refine GT_st rfl rfl rfl rfl (V_extract rfl rfl rfl) ?_
    refine GT_st rfl rfl rfl rfl (V_extract rfl rfl rfl) ?_
    refine GT_alloc rfl rfl rfl rfl rfl zc_75 (fun _ => GR_nil) (fun b9 => ?_)
    refine GT_store (vs := [_]) (l' := [_]) rfl rfl rfl rfl rfl rfl rfl sz_75 rfl rfl (Nat.le_of_ble_eq_true rfl) rfl (GR_nil) ?_
    refine GT_st rfl rfl rfl rfl (V_assign rfl rfl) ?_
    refine GT_nil ?_
    refine GE_seq ?_
    refine GE_seq ?_
    refine GE_slots (L' := [(9, _), (10, _)]) ⟨rfl, rfl, trivial⟩ ?_
    refine GE_plain (.st 0 (.st 1 .nil)) rfl ?_
    refine GT_st rfl rfl rfl rfl (V_move rfl rfl) ?_
    refine GT_st rfl rfl rfl rfl (V_neq rfl rfl rfl) ?_
    refine GT_nil ?_
    first | refine GE_condNot rfl (fun h1 => ?_) (fun h1 => ?_) | refine GE_cond rfl (fun h1 => ?_) (fun h1 => ?_) | refine GE_condNotB rfl (fun h1 => ?_) (fun h1 => ?_) | refine GE_condB rfl (fun h1 => ?_) (fun h1 => ?_)
    · exact absurd rfl h1
    · skip
      refine GE_skip ?_
      refine GE_seq ?_
      refine GE_seq ?_
      refine GE_plain (.st 0 (.st 1 (.st 2 (.st 3 (.ld 4 [] (.st 5 (.ld 6 [] (.st 7 (.st 8 (.st 9 (.ld 10 [] (.ld 11 [] (.st 12 .nil))))))))))))) rfl ?_
      refine GT_st rfl rfl rfl rfl (V_load rfl rfl ag_75 (CellAt.item rfl)) ?_
      first | refine GT_st rfl rfl rfl rfl (V_nilCheck rfl rfl) ?_ | refine GT_st rfl rfl rfl rfl (V_nilCheck_func rfl rfl) ?_ | refine GT_st rfl rfl rfl rfl (V_nilCheck_yield rfl rfl) ?_
      first | refine GT_st rfl rfl rfl rfl (V_field rfl rfl fo_84_0) ?_ | refine GT_st rfl rfl rfl rfl (V_fieldA rfl rfl fo_84_0) ?_
      refine GT_st rfl rfl rfl rfl (V_load rfl rfl ag_66 (CellAt.item rfl)) ?_
      refine GT_call rfl rfl rfl rfl rfl rfl rfl rfl rn_44 (fun w hw => C_lathe_steps) (fun _ _ => GR_nil) (fun bb _ => ?_)
      refine GT_st rfl rfl rfl rfl (V_makeFunc rfl rfl rfl) ?_
      refine GT_call0 rfl rfl rfl rfl rfl rfl rfl rfl rn_43 (fun w hw => C_firstOf (SideAt.of hw) (BlkAt.of hw) (BlkAt.of hw) (BlkAt.of hw) (hp.sh hw) (hr.sh hw) he) (GR_nil) ?_
      refine GT_st rfl rfl rfl rfl (V_move rfl rfl) ?_
      refine GT_st rfl rfl rfl rfl (V_extract rfl rfl rfl) ?_
      refine GT_st rfl rfl rfl rfl (V_extract rfl rfl rfl) ?_
      refine GT_alloc rfl rfl rfl rfl rfl zc_62 (fun _ => GR_nil) (fun b11 => ?_)
      refine GT_store (vs := [_, _]) (l' := [_, _]) rfl rfl rfl rfl rfl rfl rfl sz_62 rfl rfl (Nat.le_of_ble_eq_true rfl) rfl (GR_nil) ?_
      refine GT_st rfl rfl rfl rfl (V_assign rfl rfl) ?_
      refine GT_nil ?_
      refine GE_seq ?_
      refine GE_slots (L' := [(11, _), (12, _)]) ⟨rfl, rfl, trivial⟩ ?_
      refine GE_plain (.st 0 .nil) rfl ?_
      refine GT_st rfl rfl rfl rfl (V_move rfl rfl) ?_
      refine GT_nil ?_
      first | refine GE_condNot rfl (fun h2 => ?_) (fun h2 => ?_) | refine GE_cond rfl (fun h2 => ?_) (fun h2 => ?_) | refine GE_condNotB rfl (fun h2 => ?_) (fun h2 => ?_) | refine GE_condB rfl (fun h2 => ?_) (fun h2 => ?_)
      · obtain ⟨s, hfb⟩ := Option.isSome_iff_exists.1 h2; rw [hfb]
        refine GE_seq ?_
        refine GE_drawn (.st 0 (.st 1 (.st 2 (.st 3 (.st 4 (.st 5 (.st 6 .nil))))))) [] (by decide +kernel) ?_
        first | refine GT_st rfl rfl rfl rfl (V_field rfl rfl fo_62_1) ?_ | refine GT_st rfl rfl rfl rfl (V_fieldA rfl rfl fo_62_1) ?_
        refine GT_st rfl rfl rfl rfl (V_load rfl rfl ag_3 (CellAt.item rfl)) ?_
        first | refine GT_st rfl rfl rfl rfl (V_field rfl rfl fo_62_0) ?_ | refine GT_st rfl rfl rfl rfl (V_fieldA rfl rfl fo_62_0) ?_
        refine GT_st rfl rfl rfl rfl (V_load rfl rfl ag_3 (CellAt.item rfl)) ?_
        refine GT_st rfl rfl rfl rfl (V_assign rfl rfl) ?_
        refine GT_st rfl rfl rfl rfl (V_assign rfl rfl) ?_
        refine GT_st rfl rfl rfl rfl (V_assign rfl rfl) ?_
        refine GT_nil ?_
        refine GE_ret Try.func19 ⟨_, _, _, rfl, rfl, rfl, rfl⟩ (fun w hw => ⟨?_, hw.nil⟩)
        rw [cutRes_some he hfb]; rfl
      · have hfb : firstBad b l r = none := (by cases h : firstBad b l r with | none => rfl | some r => rw [h] at h2; cases h2)
        refine GE_skip ?_
        refine GE_seq ?_
        refine GE_plain (.st 0 (.st 1 (.st 2 .nil))) rfl ?_
        refine GT_st rfl rfl rfl rfl (V_assign rfl rfl) ?_
        refine GT_st rfl rfl rfl rfl (V_assign rfl rfl) ?_
        refine GT_st rfl rfl rfl rfl (V_assign rfl rfl) ?_
        refine GT_nil ?_
        refine GE_ret Try.func19 ⟨_, _, _, rfl, rfl, rfl, rfl⟩ (fun w hw => ⟨?_, hw.nil⟩)
        rw [cutRes_none he hfb]
  · have hc := cutRes_err he
    refine Ret_of (vs := [_, _, _]) hm none' Try.func19 rfl Try.ntmps19 rfl ?_
    dsimp only [slotsOf]
    refine GE_seq ?_
    refine GE_plain (.ld 0 [] (.st 1 (.st 2 (.st 3 .nil)))) rfl ?_
    refine GT_box (z := [_, _, _, _, _, _]) rfl rfl rfl rfl rfl rfl rfl (fun _ => GR_nil) (fun b3 => ?_)
    refine GT_st rfl rfl rfl rfl (V_assign rfl rfl) ?_
    refine GT_st rfl rfl rfl rfl (V_assign rfl rfl) ?_
    refine GT_st rfl rfl rfl rfl (V_assign rfl rfl) ?_
    refine GT_nil ?_
    refine GE_seq ?_
    refine GE_slots (L' := [(1, _), (2, _), (3, _)]) ⟨rfl, rfl, rfl, trivial⟩ ?_
    refine GE_plain (.st 0 (.st 1 (.st 2 (.ld 3 [] (.st 4 (.st 5 (.st 6 (.ld 7 [] (.ld 8 [] (.st 9 .nil)))))))))) rfl ?_
    refine GT_st rfl rfl rfl rfl (V_loadN (vs := [_, _, _, _, _, _]) rfl rfl ag_23 sz_23 rfl (CellsAt.item rfl)) ?_
    refine GT_st rfl rfl rfl rfl (V_move rfl rfl) ?_
    refine GT_st rfl rfl rfl rfl (V_move rfl rfl) ?_
    refine GT_call0 rfl rfl rfl rfl rfl rfl rfl rfl rn_42 (fun w hw => C_lathe_newCut_err (hp.sh hw) (hr.sh hw) hlr he) (GR_nil) ?_
    refine GT_st rfl rfl rfl rfl (V_move rfl rfl) ?_
    refine GT_st rfl rfl rfl rfl (V_extract rfl rfl rfl) ?_
    refine GT_st rfl rfl rfl rfl (V_extract rfl rfl rfl) ?_
    refine GT_alloc rfl rfl rfl rfl rfl zc_75 (fun _ => GR_nil) (fun b9 => ?_)
    refine GT_store (vs := [_]) (l' := [_]) rfl rfl rfl rfl rfl rfl rfl sz_75 rfl rfl (Nat.le_of_ble_eq_true rfl) rfl (GR_nil) ?_
    refine GT_st rfl rfl rfl rfl (V_assign rfl rfl) ?_
    refine GT_nil ?_
    refine GE_seq ?_
    refine GE_seq ?_
    refine GE_slots (L' := [(9, _), (10, _)]) ⟨rfl, rfl, trivial⟩ ?_
    refine GE_plain (.st 0 (.st 1 .nil)) rfl ?_
    refine GT_st rfl rfl rfl rfl (V_move rfl rfl) ?_
    refine GT_st rfl rfl rfl rfl (V_neq rfl rfl rfl) ?_
    refine GT_nil ?_
    first | refine GE_condNot rfl (fun h1 => ?_) (fun h1 => ?_) | refine GE_cond rfl (fun h1 => ?_) (fun h1 => ?_) | refine GE_condNotB rfl (fun h1 => ?_) (fun h1 => ?_) | refine GE_condB rfl (fun h1 => ?_) (fun h1 => ?_)
    · skip
      refine GE_seq ?_
      refine GE_plain (.st 0 (.st 1 (.st 2 (.st 3 .nil)))) rfl ?_
      refine GT_st rfl rfl rfl rfl (V_move rfl rfl) ?_
      refine GT_st rfl rfl rfl rfl (V_assign rfl rfl) ?_
      refine GT_st rfl rfl rfl rfl (V_assign rfl rfl) ?_
      refine GT_st rfl rfl rfl rfl (V_assign rfl rfl) ?_
      refine GT_nil ?_
      refine GE_ret Try.func19 ⟨_, _, _, rfl, rfl, rfl, rfl⟩ (fun w hw => ⟨?_, hw.nil⟩)
      rw [hc]; rfl
    · exact absurd h1 he
end Go.Proofs.Ytacmnmcaeflflaa
