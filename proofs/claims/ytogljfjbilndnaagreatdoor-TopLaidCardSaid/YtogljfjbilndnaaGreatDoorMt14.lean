/- Texts of this proof, one behind the other: LaQ, LaZ, Th2, Th3, Th4. -/
import Derived.Test.YtogljfjbilndnaaGreatDoorMt5
import Derived.Test.YtogljfjbilndnaaGreatDoorMt13
import Derived.Test.YtogljfjbilndnaaGreatDoorMt12
import Derived.Test.YtogljfjbilndnaaGreatDoorMt9
/- Refuse and CheckRefusal, walked. -/
namespace Go.Proofs.YtogljfjbilndnaaGreatDoor.Lathe
open Go.Sx Go.Proofs

section
variable {b : Blank} {A A2 : Option Addr} {l : List Pt} {st : List Stp} {c c2 : Nat} {w : World}
/-- the error of Refuse -/
def refuseE (b : Blank) (l : List Pt) : Int := if both b l = 0 then (if (outer b l).isSome then 5 else 0) else both b l
theorem C_lathe_Refuse (hp : RdL w 2 ePt A l) :
    Con Tryz.prog 10 [b.val, .slice A l.length c] w (fun y : List Stp × Option Addr × Nat × Items => Own 2 70 eStp y.1 (.slice y.2.1 y.1.length y.2.2.1) y.2.2.2 ∧ (refuseE b l = 0 → 0 < y.1.length ∧ outer b l = none ∧ ∃ rad, Search b l rad y.1) ∧ (refuseE b l ≠ 0 → y.1 = []))
      (fun y => .tuple #[.slice y.2.1 y.1.length y.2.2.1, I (refuseE b l)]) (fun y => y.2.2.2) := by
  by_cases he : both b l = 0
  · obtain ⟨hb, h3, h4⟩ := both_zero.1 he
    have hpb := ptB_of h4
    have hE : refuseE b l = if (outer b l).isSome then 5 else 0 := if_pos he
    refine Ret_of (vs := [_, _]) hm none' Tryz.func10 rfl Tryz.ntmps10 rfl ?_
    dsimp only [slotsOf]
    refine GE_seq ?_
    refine GE_plain (.ld 0 [] (.st 1 (.st 2 .nil))) rfl ?_
    refine GT_box (z := [_, _, _, _, _, _]) rfl rfl rfl rfl rfl rfl rfl (fun _ => GR_nil) (fun b2 => ?_)
    refine GT_st rfl rfl rfl rfl (V_assign rfl rfl) ?_
    refine GT_st rfl rfl rfl rfl (V_assign rfl rfl) ?_
    refine GT_nil ?_
    refine GE_seq ?_
    refine GE_plain (.st 0 (.st 1 (.ld 2 [] (.st 3 (.st 4 (.st 5 (.st 6 (.st 7 .nil)))))))) rfl ?_
    refine GT_st rfl rfl rfl rfl (V_loadN (vs := [_, _, _, _, _, _]) rfl rfl ag_28 sz_28 rfl (CellsAt.item rfl)) ?_
    refine GT_st rfl rfl rfl rfl (V_move rfl rfl) ?_
    refine GT_call rfl rfl rfl rfl rfl rfl rfl rfl rn_16 (fun w hw => C_lathe_newSide_ok (hp.sh hw) he) (fun _ _ => GR_nil) (fun bs _ => ?_)
    refine GT_st rfl rfl rfl rfl (V_move rfl rfl) ?_
    refine GT_st rfl rfl rfl rfl (V_extract rfl rfl rfl) ?_
    refine GT_st rfl rfl rfl rfl (V_extract rfl rfl rfl) ?_
    refine GT_st rfl rfl rfl rfl (V_assign rfl rfl) ?_
    refine GT_st rfl rfl rfl rfl (V_assign rfl rfl) ?_
    refine GT_nil ?_
    refine GE_seq ?_
    refine GE_seq ?_
    refine GE_slots (L' := [(6, _), (7, _)]) ⟨rfl, rfl, trivial⟩ ?_
    refine GE_plain (.st 0 (.st 1 .nil)) rfl ?_
    refine GT_st rfl rfl rfl rfl (V_move rfl rfl) ?_
    refine GT_st rfl rfl rfl rfl (V_neq rfl rfl rfl) ?_
    refine GT_nil ?_
    first | refine GE_condNot rfl (fun h1 => ?_) (fun h1 => ?_) | refine GE_cond rfl (fun h1 => ?_) (fun h1 => ?_) | refine GE_condNotB rfl (fun h1 => ?_) (fun h1 => ?_) | refine GE_condB rfl (fun h1 => ?_) (fun h1 => ?_)
    · exact absurd rfl h1
    · skip
      refine GE_skip ?_
      refine GE_seq ?_
      refine GE_plain (.st 0 (.ld 1 [] (.ld 2 [] (.ld 3 [] .nil)))) rfl ?_
      refine GT_st rfl rfl rfl rfl (V_move rfl rfl) ?_
      refine GT_call rfl rfl rfl rfl rfl rfl rfl rfl rn_17 (fun w hw => C_lathe_search (SideAt.of hw) (hp.sh hw) hb h3 h4) (fun _ _ => GR_nil) (fun y hy => ?_)
      obtain ⟨rad, st, ⟨A1, c1, I1⟩, A2, c2, I2⟩ := y; obtain ⟨hS, hO1, hO2⟩ := hy; dsimp only at hS hO1 hO2 ⊢
      refine GT_alloc rfl rfl rfl rfl rfl zc_63 (fun _ => GR_nil) (fun b8 => ?_)
      refine GT_store (vs := [_, _]) (l' := [_, _]) rfl rfl rfl rfl rfl rfl rfl sz_63 rfl rfl (Nat.le_of_ble_eq_true rfl) rfl (GR_nil) ?_
      refine GT_nil ?_
      refine GE_seq ?_
      refine GE_seq ?_
      refine GE_slots (L' := [(8, _)]) ⟨rfl, trivial⟩ ?_
      refine GE_plain (.st 0 (.st 1 (.st 2 (.st 3 .nil)))) rfl ?_
      first | refine GT_st rfl rfl rfl rfl (V_field rfl rfl fo_63_1) ?_ | refine GT_st rfl rfl rfl rfl (V_fieldA rfl rfl fo_63_1) ?_
      refine GT_st rfl rfl rfl rfl (V_load rfl rfl ag_45 (CellAt.item rfl)) ?_
      refine GT_st rfl rfl rfl rfl (V_len rfl Tryz.underlying45 rfl) ?_
      refine GT_st rfl rfl rfl rfl (V_eql rfl rfl rfl) ?_
      refine GT_nil ?_
      first | refine GE_condNot rfl (fun h5 => ?_) (fun h5 => ?_) | refine GE_cond rfl (fun h5 => ?_) (fun h5 => ?_) | refine GE_condNotB rfl (fun h5 => ?_) (fun h5 => ?_) | refine GE_condB rfl (fun h5 => ?_) (fun h5 => ?_)
      · skip
        refine GE_seq ?_
        refine GE_slots (L' := []) trivial ?_
        refine GE_plain (.st 0 (.st 1 .nil)) rfl ?_
        refine GT_st rfl rfl rfl rfl (V_assign rfl rfl) ?_
        refine GT_st rfl rfl rfl rfl (V_assign rfl rfl) ?_
        refine GT_nil ?_
        refine GE_ret Tryz.func10 ⟨_, _, rfl, rfl, rfl⟩ (fun w hw => ?_)
        rcases search_outer hb hpb hS with ⟨_, g2⟩ | ⟨g1, _⟩; rw [g2] at hE; exact ⟨([], none, 0, []), ⟨Own.nil, (fun q => by rw [hE] at q; cases q), fun _ => rfl⟩, by rw [hE]; rfl, hw.nil⟩; exact absurd h5 (by omega)
      · skip
        refine GE_skip ?_
        refine GE_seq ?_
        refine GE_slots (L' := [(8, _)]) ⟨rfl, trivial⟩ ?_
        refine GE_plain (.st 0 (.st 1 (.st 2 (.st 3 .nil)))) rfl ?_
        first | refine GT_st rfl rfl rfl rfl (V_field rfl rfl fo_63_1) ?_ | refine GT_st rfl rfl rfl rfl (V_fieldA rfl rfl fo_63_1) ?_
        refine GT_st rfl rfl rfl rfl (V_load rfl rfl ag_45 (CellAt.item rfl)) ?_
        refine GT_st rfl rfl rfl rfl (V_assign rfl rfl) ?_
        refine GT_st rfl rfl rfl rfl (V_assign rfl rfl) ?_
        refine GT_nil ?_
        refine GE_ret Tryz.func10 ⟨_, _, rfl, rfl, rfl⟩ (fun w hw => ?_)
        rcases search_outer hb hpb hS with ⟨rfl, _⟩ | ⟨g1, g2⟩; exact absurd rfl h5; rw [g2] at hE; exact ⟨(st, A2, c2, I2), ⟨hO2, fun _ => ⟨g1, g2, rad, hS⟩, fun q => absurd hE q⟩, by rw [hE]; rfl, hw.chunk⟩
  · have hE : refuseE b l = both b l := if_neg he
    refine Ret_of (vs := [_, _]) hm none' Tryz.func10 rfl Tryz.ntmps10 rfl ?_
    dsimp only [slotsOf]
    refine GE_seq ?_
    refine GE_plain (.ld 0 [] (.st 1 (.st 2 .nil))) rfl ?_
    refine GT_box (z := [_, _, _, _, _, _]) rfl rfl rfl rfl rfl rfl rfl (fun _ => GR_nil) (fun b2 => ?_)
    refine GT_st rfl rfl rfl rfl (V_assign rfl rfl) ?_
    refine GT_st rfl rfl rfl rfl (V_assign rfl rfl) ?_
    refine GT_nil ?_
    refine GE_seq ?_
    refine GE_plain (.st 0 (.st 1 (.ld 2 [] (.st 3 (.st 4 (.st 5 (.st 6 (.st 7 .nil)))))))) rfl ?_
    refine GT_st rfl rfl rfl rfl (V_loadN (vs := [_, _, _, _, _, _]) rfl rfl ag_28 sz_28 rfl (CellsAt.item rfl)) ?_
    refine GT_st rfl rfl rfl rfl (V_move rfl rfl) ?_
    refine GT_call0 rfl rfl rfl rfl rfl rfl rfl rfl rn_16 (fun w hw => C_lathe_newSide_err (hp.sh hw) he) (GR_nil) ?_
    refine GT_st rfl rfl rfl rfl (V_move rfl rfl) ?_
    refine GT_st rfl rfl rfl rfl (V_extract rfl rfl rfl) ?_
    refine GT_st rfl rfl rfl rfl (V_extract rfl rfl rfl) ?_
    refine GT_st rfl rfl rfl rfl (V_assign rfl rfl) ?_
    refine GT_st rfl rfl rfl rfl (V_assign rfl rfl) ?_
    refine GT_nil ?_
    refine GE_seq ?_
    refine GE_seq ?_
    refine GE_slots (L' := [(6, _), (7, _)]) ⟨rfl, rfl, trivial⟩ ?_
    refine GE_plain (.st 0 (.st 1 .nil)) rfl ?_
    refine GT_st rfl rfl rfl rfl (V_move rfl rfl) ?_
    refine GT_st rfl rfl rfl rfl (V_neq rfl rfl rfl) ?_
    refine GT_nil ?_
    first | refine GE_condNot rfl (fun h5 => ?_) (fun h5 => ?_) | refine GE_cond rfl (fun h5 => ?_) (fun h5 => ?_) | refine GE_condNotB rfl (fun h5 => ?_) (fun h5 => ?_) | refine GE_condB rfl (fun h5 => ?_) (fun h5 => ?_)
    · skip
      refine GE_seq ?_
      refine GE_plain (.st 0 (.st 1 (.st 2 .nil))) rfl ?_
      refine GT_st rfl rfl rfl rfl (V_move rfl rfl) ?_
      refine GT_st rfl rfl rfl rfl (V_assign rfl rfl) ?_
      refine GT_st rfl rfl rfl rfl (V_assign rfl rfl) ?_
      refine GT_nil ?_
      refine GE_ret Tryz.func10 ⟨_, _, rfl, rfl, rfl⟩ (fun w hw => ?_)
      exact ⟨([], none, 0, []), ⟨Own.nil, fun q => absurd (hE ▸ q) he, fun _ => rfl⟩, by rw [hE]; rfl, hw.nil⟩
    · exact absurd h5 he

set_option maxRecDepth 10000 in
theorem C_lathe_CheckRefusal (hp : RdL w 2 ePt A l) (hs : RdL w 2 eStp A2 st) (hls : st.length ≤ 1099511627776) :
    Con0 Tryz.prog 11 [b.val, .slice A l.length c, .slice A2 st.length c2] w (I (refE b l st)) := by
  by_cases he : both b l = 0
  · obtain ⟨hb, h3, h4⟩ := both_zero.1 he
    have hpb := ptB_of h4
    have hE : refE b l st = if 16384 < st.length then 6 else if provesB b l st then 0 else 16 := if_pos he
    refine Ret_of (vs := [_, _, _]) hm none' Tryz.func11 rfl Tryz.ntmps11 rfl ?_
    dsimp only [slotsOf]
    refine GE_seq ?_
    refine GE_plain (.ld 0 [] (.st 1 .nil)) rfl ?_
    refine GT_box (z := [_, _, _, _, _, _]) rfl rfl rfl rfl rfl rfl rfl (fun _ => GR_nil) (fun b3 => ?_)
    refine GT_st rfl rfl rfl rfl (V_assign rfl rfl) ?_
    refine GT_nil ?_
    refine GE_seq ?_
    refine GE_plain (.st 0 (.st 1 (.ld 2 [] (.st 3 (.st 4 (.st 5 (.st 6 (.st 7 .nil)))))))) rfl ?_
    refine GT_st rfl rfl rfl rfl (V_loadN (vs := [_, _, _, _, _, _]) rfl rfl ag_28 sz_28 rfl (CellsAt.item rfl)) ?_
    refine GT_st rfl rfl rfl rfl (V_move rfl rfl) ?_
    refine GT_call rfl rfl rfl rfl rfl rfl rfl rfl rn_16 (fun w hw => C_lathe_newSide_ok (hp.sh hw) he) (fun _ _ => GR_nil) (fun bs _ => ?_)
    refine GT_st rfl rfl rfl rfl (V_move rfl rfl) ?_
    refine GT_st rfl rfl rfl rfl (V_extract rfl rfl rfl) ?_
    refine GT_st rfl rfl rfl rfl (V_extract rfl rfl rfl) ?_
    refine GT_st rfl rfl rfl rfl (V_assign rfl rfl) ?_
    refine GT_st rfl rfl rfl rfl (V_assign rfl rfl) ?_
    refine GT_nil ?_
    refine GE_seq ?_
    refine GE_seq ?_
    refine GE_slots (L' := [(2, _), (7, _), (8, _)]) ⟨rfl, rfl, rfl, trivial⟩ ?_
    refine GE_plain (.st 0 (.st 1 .nil)) rfl ?_
    refine GT_st rfl rfl rfl rfl (V_move rfl rfl) ?_
    refine GT_st rfl rfl rfl rfl (V_neq rfl rfl rfl) ?_
    refine GT_nil ?_
    first | refine GE_condNot rfl (fun h1 => ?_) (fun h1 => ?_) | refine GE_cond rfl (fun h1 => ?_) (fun h1 => ?_) | refine GE_condNotB rfl (fun h1 => ?_) (fun h1 => ?_) | refine GE_condB rfl (fun h1 => ?_) (fun h1 => ?_)
    · exact absurd rfl h1
    · skip
      refine GE_skip ?_
      refine GE_seq ?_
      refine GE_seq ?_
      refine GE_plain (.st 0 (.st 1 (.st 2 .nil))) rfl ?_
      refine GT_st rfl rfl rfl rfl (V_move rfl rfl) ?_
      refine GT_st rfl rfl rfl rfl (V_len rfl Tryz.underlying45 rfl) ?_
      refine GT_st rfl rfl rfl rfl (V_gtr rfl rfl rfl) ?_
      refine GT_nil ?_
      first | refine GE_condNot rfl (fun h2 => ?_) (fun h2 => ?_) | refine GE_cond rfl (fun h2 => ?_) (fun h2 => ?_) | refine GE_condNotB rfl (fun h2 => ?_) (fun h2 => ?_) | refine GE_condB rfl (fun h2 => ?_) (fun h2 => ?_)
      · skip
        refine GE_seq ?_
        refine GE_slots (L' := []) trivial ?_
        refine GE_plain (.st 0 .nil) rfl ?_
        refine GT_st rfl rfl rfl rfl (V_assign rfl rfl) ?_
        refine GT_nil ?_
        refine GE_ret Tryz.func11 rfl (fun w hw => ⟨?_, hw.nil⟩)
        rw [hE, if_pos (by omega)]
      · skip
        refine GE_skip ?_
        refine GE_seq ?_
        refine GE_seq ?_
        refine GE_slots (L' := [(2, _), (7, _)]) ⟨rfl, rfl, trivial⟩ ?_
        refine GE_plain (.st 0 (.st 1 (.st 2 .nil))) rfl ?_
        refine GT_st rfl rfl rfl rfl (V_move rfl rfl) ?_
        refine GT_st rfl rfl rfl rfl (V_len rfl Tryz.underlying45 rfl) ?_
        refine GT_st rfl rfl rfl rfl (V_eql rfl rfl rfl) ?_
        refine GT_nil ?_
        first | refine GE_condNot rfl (fun h5 => ?_) (fun h5 => ?_) | refine GE_cond rfl (fun h5 => ?_) (fun h5 => ?_) | refine GE_condNotB rfl (fun h5 => ?_) (fun h5 => ?_) | refine GE_condB rfl (fun h5 => ?_) (fun h5 => ?_)
        · have hnil : st = [] := List.eq_nil_of_length_eq_zero (by omega)
          refine GE_seq ?_
          refine GE_slots (L' := []) trivial ?_
          refine GE_plain (.st 0 .nil) rfl ?_
          refine GT_st rfl rfl rfl rfl (V_assign rfl rfl) ?_
          refine GT_nil ?_
          refine GE_ret Tryz.func11 rfl (fun w hw => ⟨?_, hw.nil⟩)
          subst hnil; rw [hE]; rfl
        · have hne : st ≠ [] := (fun q => h5 (by rw [q]; rfl))
          refine GE_skip ?_
          refine GE_cut (ι := Nat) (fun b9 => [(2, .slice A2 st.length c2), (7, ptr bs 0), (9, ptr b9 0)]) (fun b9 => [(b9, blk (eEdge (edgeOf b l (st.getD 0 default).rule (st.getD 0 default).samp).1) 72), (bs, blk (sideCells b A l c) 102)]) (fun b9 => True) ?_ (fun hk9 => ?_)
          · intro b9 _
            refine GE_seq ?_
            refine GE_plain (.st 0 (.st 1 (.st 2 (.st 3 .nil)))) rfl ?_
            first | refine GT_st rfl rfl rfl rfl (V_field rfl rfl fo_72_1) ?_ | refine GT_st rfl rfl rfl rfl (V_fieldA rfl rfl fo_72_1) ?_
            refine GT_st rfl rfl rfl rfl (V_load rfl rfl ag_3 (CellAt.item rfl)) ?_
            refine GT_st rfl rfl rfl rfl (V_assign rfl rfl) ?_
            refine GT_st rfl rfl rfl rfl (V_assign rfl rfl) ?_
            refine GT_nil ?_
            refine GE_seq ?_
            refine GE_seq ?_
            refine GE_plain (.st 0 (.st 1 (.st 2 .nil))) rfl ?_
            refine GT_st rfl rfl rfl rfl (V_move rfl rfl) ?_
            refine GT_st rfl rfl rfl rfl (V_len rfl Tryz.underlying45 rfl) ?_
            refine GT_st rfl rfl rfl rfl (V_move rfl rfl) ?_
            refine GT_nil ?_
            refine GE_block ?_
            refine GE_to (GE_loop (ι := Nat × Int × Int) (fun x => st.length - x.1) (fun x => [(7, ptr bs 0), (9, ptr b9 0), (11, I x.2.1), (12, I x.2.2), (47, .slice A2 st.length c2), (48, I st.length), (49, I x.1)]) (fun x => [(b9, blk (eEdge (edgeOf b l (st.getD 0 default).rule (st.getD 0 default).samp).1) 72), (bs, blk (sideCells b A l c) 102)]) (fun x => x.1 ≤ st.length ∧ pfold b l (st.take x.1) (frm0 b l st) = some (x.1, x.2.1, x.2.2) ∧ (x.1 = 0 → x.2.1 = frm0 b l st)) ?_ (0, frm0 b l st, 0) ?_) ⟨rfl, rfl, rfl, rfl, rfl, rfl, rfl, trivial⟩ (HS.cons rfl (HS.cons rfl HS.nil))
            · rintro ⟨k, pl, sum⟩ ⟨hk, hfo, hk0⟩ ih; dsimp only at hk hfo hk0 ih ⊢; have hbd := pfold_bd hb hpb k hk _ _ _ hfo
              refine GE_seq ?_
              refine GE_plain (.st 0 .nil) rfl ?_
              refine GT_st rfl rfl rfl rfl (V_lss rfl rfl rfl) ?_
              refine GT_nil ?_
              refine GE_seq ?_
              first | refine GE_condNot rfl (fun h6 => ?_) (fun h6 => ?_) | refine GE_cond rfl (fun h6 => ?_) (fun h6 => ?_) | refine GE_condNotB rfl (fun h6 => ?_) (fun h6 => ?_) | refine GE_condB rfl (fun h6 => ?_) (fun h6 => ?_)
              · have hkl : k < st.length := (by omega)
                have hps : pfold b l (st.take (k + 1)) (frm0 b l st) = pst b l (some (k, pl, sum)) (st.getD k default) := (by rw [pfold_snoc hkl, hfo])
                have hno : pst b l (some (k, pl, sum)) (st.getD k default) = none → provesB b l st = false := (fun q => proves_none (pfold_bad hkl (by rw [hfo]; exact q)))
                refine GE_skip ?_
                refine GE_seq ?_
                refine GE_block ?_
                refine GE_seq ?_
                refine GE_plain (.st 0 (.st 1 (.st 2 (.ld 3 [] (.st 4 (.ld 5 [] .nil)))))) rfl ?_
                refine GT_st rfl rfl rfl rfl (V_move rfl rfl) ?_
                refine GT_st rfl rfl rfl rfl (V_index rfl rfl rfl Tryz.underlying45 sz_70 (k := k) rfl hkl (hs.isSome hkl)) ?_
                refine GT_st rfl rfl rfl rfl (V_loadN (vs := [_, _]) rfl rfl ag_70 sz_70 rfl (hs.ats noM hkl)) ?_
                refine GT_alloc rfl rfl rfl rfl rfl zc_70 (fun _ => GR_nil) (fun b14 => ?_)
                refine GT_st rfl rfl rfl rfl (V_assign rfl rfl) ?_
                refine GT_store (vs := [_, _]) (l' := [_, _]) rfl rfl rfl rfl rfl rfl rfl sz_70 rfl rfl (Nat.le_of_ble_eq_true rfl) rfl (GR_nil) ?_
                refine GT_nil ?_
                refine GE_seq ?_
                refine GE_slots (L' := [(7, _), (9, _), (11, _), (12, _), (13, _), (14, _), (47, _), (48, _), (49, _)]) ⟨rfl, rfl, rfl, rfl, rfl, rfl, rfl, rfl, rfl, trivial⟩ ?_
                refine GE_plain (.st 0 (.st 1 (.st 2 (.st 3 (.st 4 (.ld 5 [] (.st 6 (.st 7 (.st 8 (.ld 9 [] (.ld 10 [] (.st 11 .nil)))))))))))) rfl ?_
                refine GT_st rfl rfl rfl rfl (V_move rfl rfl) ?_
                first | refine GT_st rfl rfl rfl rfl (V_field rfl rfl fo_70_0) ?_ | refine GT_st rfl rfl rfl rfl (V_fieldA rfl rfl fo_70_0) ?_
                refine GT_st rfl rfl rfl rfl (V_load rfl rfl ag_3 (CellAt.item rfl)) ?_
                first | refine GT_st rfl rfl rfl rfl (V_field rfl rfl fo_70_1) ?_ | refine GT_st rfl rfl rfl rfl (V_fieldA rfl rfl fo_70_1) ?_
                refine GT_st rfl rfl rfl rfl (V_load rfl rfl ag_3 (CellAt.item rfl)) ?_
                refine GT_call0 rfl rfl rfl rfl rfl rfl rfl rfl rn_23 (fun w hw => C_lathe_edge (SideAt.of hw) (hp.sh hw) hb h3 h4) (GR_nil) ?_
                refine GT_st rfl rfl rfl rfl (V_move rfl rfl) ?_
                refine GT_st rfl rfl rfl rfl (V_extract rfl rfl rfl) ?_
                refine GT_st rfl rfl rfl rfl (V_extract rfl rfl rfl) ?_
                refine GT_alloc rfl rfl rfl rfl rfl zc_72 (fun _ => GR_nil) (fun b15 => ?_)
                refine GT_store (vs := [_, _, _, _, _]) (l' := [_, _, _, _, _]) rfl rfl rfl rfl rfl rfl rfl sz_72 rfl rfl (Nat.le_of_ble_eq_true rfl) rfl (GR_nil) ?_
                refine GT_st rfl rfl rfl rfl (V_assign rfl rfl) ?_
                refine GT_nil ?_
                refine GE_seq ?_
                refine GE_seq ?_
                refine GE_slots (L' := [(7, _), (9, _), (11, _), (12, _), (13, _), (15, _), (16, _), (47, _), (48, _), (49, _)]) ⟨rfl, rfl, rfl, rfl, rfl, rfl, rfl, rfl, rfl, rfl, trivial⟩ ?_
                refine GE_plain (.st 0 (.st 1 (.st 2 (.st 3 (.st 4 (.st 5 (.st 6 (.st 7 (.st 8 (.st 9 (.st 10 (.st 11 (.st 12 (.st 13 (.st 14 (.st 15 .nil)))))))))))))))) rfl ?_
                refine GT_st rfl rfl rfl rfl (V_move rfl rfl) ?_
                first | refine GT_st rfl rfl rfl rfl (V_not rfl rfl) ?_ | refine GT_st rfl rfl rfl rfl (V_notB rfl rfl) ?_
                refine GT_st rfl rfl rfl rfl (V_move rfl rfl) ?_
                first | refine GT_splitNot (d := 65) rfl (fun h7 => ?_) (fun h7 => ?_) | refine GT_split (d := 65) rfl (fun h7 => ?_) (fun h7 => ?_) | refine GT_splitNotB (d := 65) rfl (fun h7 => ?_) (fun h7 => ?_) | refine GT_splitB (d := 65) rfl (fun h7 => ?_) (fun h7 => ?_)
                · have hbad := hno (if_neg (fun q => by rw [h7] at q; cases q.1))
                  refine GT_skip rfl rfl rfl rfl rfl (by decide) rfl rfl ?_
                  refine GT_skip rfl rfl rfl rfl rfl (by decide) rfl rfl ?_
                  refine GT_skip rfl rfl rfl rfl rfl (by decide) rfl rfl ?_
                  refine GT_skip rfl rfl rfl rfl rfl (by decide) rfl rfl ?_
                  refine GT_st rfl rfl rfl rfl (V_pick_t rfl rfl rfl) ?_
                  refine GT_st rfl rfl rfl rfl (V_move rfl rfl) ?_
                  refine GT_skip rfl rfl rfl rfl rfl (by decide) rfl rfl ?_
                  refine GT_skip rfl rfl rfl rfl rfl (by decide) rfl rfl ?_
                  refine GT_skip rfl rfl rfl rfl rfl (by decide) rfl rfl ?_
                  refine GT_skip rfl rfl rfl rfl rfl (by decide) rfl rfl ?_
                  refine GT_skip rfl rfl rfl rfl rfl (by decide) rfl rfl ?_
                  refine GT_skip rfl rfl rfl rfl rfl (by decide) rfl rfl ?_
                  refine GT_st rfl rfl rfl rfl (V_pick_t rfl rfl rfl) ?_
                  refine GT_nil ?_
                  refine GE_cond_t rfl ?_
                  refine GE_seq ?_
                  refine GE_slots (L' := []) trivial ?_
                  refine GE_plain (.st 0 .nil) rfl ?_
                  refine GT_st rfl rfl rfl rfl (V_assign rfl rfl) ?_
                  refine GT_nil ?_
                  refine GE_ret Tryz.func11 rfl (fun w hw => ⟨?_, hw.nil⟩)
                  rw [hE, if_neg (by omega), hbad]; rfl
                · have hwt := edgeOf_wt hb hpb h7
                  first | refine GT_st_g rfl rfl rfl rfl rfl rfl rfl (V_field rfl rfl fo_72_1) ?_ | refine GT_st_g rfl rfl rfl rfl rfl rfl rfl (V_fieldA rfl rfl fo_72_1) ?_
                  refine GT_st_g rfl rfl rfl rfl rfl rfl rfl (V_load rfl rfl ag_3 (CellAt.item rfl)) ?_
                  refine GT_st_g rfl rfl rfl rfl rfl rfl rfl (V_move rfl rfl) ?_
                  refine GT_st_g rfl rfl rfl rfl rfl rfl rfl (V_neq rfl rfl rfl) ?_
                  refine GT_st rfl rfl rfl rfl (V_pick_f rfl rfl rfl) ?_
                  refine GT_st rfl rfl rfl rfl (V_move rfl rfl) ?_
                  first | refine GT_splitNot (d := 71) rfl (fun h8 => ?_) (fun h8 => ?_) | refine GT_split (d := 71) rfl (fun h8 => ?_) (fun h8 => ?_) | refine GT_splitNotB (d := 71) rfl (fun h8 => ?_) (fun h8 => ?_) | refine GT_splitB (d := 71) rfl (fun h8 => ?_) (fun h8 => ?_)
                  · have hbad := hno (if_neg (fun q => by rcases q.2 with q | q; exact h8 (by rw [hk0 q, q]; rfl); exact h8 q.1))
                    refine GT_skip rfl rfl rfl rfl rfl (by decide) rfl rfl ?_
                    refine GT_skip rfl rfl rfl rfl rfl (by decide) rfl rfl ?_
                    refine GT_skip rfl rfl rfl rfl rfl (by decide) rfl rfl ?_
                    refine GT_skip rfl rfl rfl rfl rfl (by decide) rfl rfl ?_
                    refine GT_skip rfl rfl rfl rfl rfl (by decide) rfl rfl ?_
                    refine GT_skip rfl rfl rfl rfl rfl (by decide) rfl rfl ?_
                    refine GT_st rfl rfl rfl rfl (V_pick_t rfl rfl rfl) ?_
                    refine GT_nil ?_
                    refine GE_cond_t rfl ?_
                    refine GE_seq ?_
                    refine GE_slots (L' := []) trivial ?_
                    refine GE_plain (.st 0 .nil) rfl ?_
                    refine GT_st rfl rfl rfl rfl (V_assign rfl rfl) ?_
                    refine GT_nil ?_
                    refine GE_ret Tryz.func11 rfl (fun w hw => ⟨?_, hw.nil⟩)
                    rw [hE, if_neg (by omega), hbad]; rfl
                  · skip
                    refine GT_st_g rfl rfl rfl rfl rfl rfl rfl (V_move rfl rfl) ?_
                    refine GT_st_g rfl rfl rfl rfl rfl rfl rfl (V_gtr rfl rfl rfl) ?_
                    refine GT_st_g rfl rfl rfl rfl rfl rfl rfl (V_move rfl rfl) ?_
                    first | refine GT_splitNot (d := 74) rfl (fun h9 => ?_) (fun h9 => ?_) | refine GT_split (d := 74) rfl (fun h9 => ?_) (fun h9 => ?_) | refine GT_splitNotB (d := 74) rfl (fun h9 => ?_) (fun h9 => ?_) | refine GT_splitB (d := 74) rfl (fun h9 => ?_) (fun h9 => ?_)
                    · skip
                      refine GT_st_g rfl rfl rfl rfl rfl rfl rfl (V_move rfl rfl) ?_
                      refine GT_st_g rfl rfl rfl rfl rfl rfl rfl (V_eql rfl rfl rfl) ?_
                      refine GT_st_g rfl rfl rfl rfl rfl rfl rfl (V_pick_t rfl rfl rfl) ?_
                      refine GT_st rfl rfl rfl rfl (V_pick_f rfl rfl rfl) ?_
                      refine GT_nil ?_
                      first | refine GE_condNot rfl (fun h10 => ?_) (fun h10 => ?_) | refine GE_cond rfl (fun h10 => ?_) (fun h10 => ?_) | refine GE_condNotB rfl (fun h10 => ?_) (fun h10 => ?_) | refine GE_condB rfl (fun h10 => ?_) (fun h10 => ?_)
                      · have hbad := hno (if_neg (fun q => by rcases q.2 with q | q; omega; exact q.2 (by rw [q.1]; exact h10)))
                        refine GE_seq ?_
                        refine GE_slots (L' := []) trivial ?_
                        refine GE_plain (.st 0 .nil) rfl ?_
                        refine GT_st rfl rfl rfl rfl (V_assign rfl rfl) ?_
                        refine GT_nil ?_
                        refine GE_ret Tryz.func11 rfl (fun w hw => ⟨?_, hw.nil⟩)
                        rw [hE, if_neg (by omega), hbad]; rfl
                      · have hok := hps.trans (if_pos ⟨h7, .inr ⟨h8, by rw [h8]; exact h10⟩⟩)
                        refine GE_skip ?_
                        refine GE_slots (L' := [(7, _), (9, _), (12, _), (15, _), (47, _), (48, _), (49, _), (66, _), (67, _), (68, _), (69, _), (72, _), (73, _), (74, _), (75, _), (76, _), (77, _)]) ⟨rfl, rfl, rfl, rfl, rfl, rfl, rfl, rfl, rfl, rfl, rfl, rfl, rfl, rfl, rfl, rfl, rfl, trivial⟩ ?_
                        refine GE_drawn (.st 0 (.st 1 (.st 2 (.st 3 (.st 4 (.st 5 (.st 6 (.ld 7 [] .nil)))))))) [7] (by decide +kernel) ?_
                        first | refine GT_st rfl rfl rfl rfl (V_field rfl rfl fo_72_2) ?_ | refine GT_st rfl rfl rfl rfl (V_fieldA rfl rfl fo_72_2) ?_
                        refine GT_st rfl rfl rfl rfl (V_load rfl rfl ag_3 (CellAt.item rfl)) ?_
                        refine GT_st rfl rfl rfl rfl (V_move rfl rfl) ?_
                        first | refine GT_st rfl rfl rfl rfl (V_field rfl rfl fo_72_3) ?_ | refine GT_st rfl rfl rfl rfl (V_fieldA rfl rfl fo_72_3) ?_
                        refine GT_st rfl rfl rfl rfl (V_load rfl rfl ag_2 (CellAt.item rfl)) ?_
                        refine GT_st rfl rfl rfl rfl (V_add rfl rfl rfl (wrap_i64 (by omega))) ?_
                        refine GT_st rfl rfl rfl rfl (V_assign rfl rfl) ?_
                        refine GT_ldv rfl rfl rfl rfl rfl (V_assign rfl rfl) (GR_nil) ?_
                        refine GT_nil ?_
                        refine GE_inBlock ?_
                        refine GE_slots (L' := [(7, _), (9, _), (11, _), (12, _), (47, _), (48, _), (49, _), (66, _), (67, _), (68, _), (69, _), (72, _), (73, _), (74, _), (75, _), (76, _), (77, _)]) ⟨rfl, rfl, rfl, rfl, rfl, rfl, rfl, rfl, rfl, rfl, rfl, rfl, rfl, rfl, rfl, rfl, rfl, trivial⟩ ?_
                        refine GE_plain (.st 0 (.ld 1 [] .nil)) rfl ?_
                        refine GT_st rfl rfl rfl rfl (V_add rfl rfl rfl (wrap_i64 (by omega))) ?_
                        refine GT_ldv rfl rfl rfl rfl rfl (V_move rfl rfl) (GR_nil) ?_
                        refine GT_nil ?_
                        exact GE_to (ih (k + 1, (edgeOf b l (st.getD k default).rule (st.getD k default).samp).1.to, sum + (edgeOf b l (st.getD k default).rule (st.getD k default).samp).1.wt) ⟨by dsimp only; omega, hok, fun q => by cases q⟩ (by dsimp only; omega)) ⟨rfl, rfl, rfl, rfl, rfl, rfl, rfl, trivial⟩ (HS.cons rfl (HS.cons rfl HS.nil))
                    · have hok := hps.trans (if_pos ⟨h7, .inl (by omega)⟩)
                      refine GT_skip rfl rfl rfl rfl rfl (by decide) rfl rfl ?_
                      refine GT_skip rfl rfl rfl rfl rfl (by decide) rfl rfl ?_
                      refine GT_st_g rfl rfl rfl rfl rfl rfl rfl (V_pick_f rfl rfl rfl) ?_
                      refine GT_st rfl rfl rfl rfl (V_pick_f rfl rfl rfl) ?_
                      refine GT_nil ?_
                      refine GE_cond_f rfl ?_
                      refine GE_skip ?_
                      refine GE_slots (L' := [(7, _), (9, _), (12, _), (15, _), (47, _), (48, _), (49, _), (66, _), (67, _), (68, _), (69, _), (72, _), (73, _), (74, _), (75, _), (76, _), (77, _)]) ⟨rfl, rfl, rfl, rfl, rfl, rfl, rfl, rfl, rfl, rfl, rfl, rfl, rfl, rfl, rfl, rfl, rfl, trivial⟩ ?_
                      refine GE_drawn (.st 0 (.st 1 (.st 2 (.st 3 (.st 4 (.st 5 (.st 6 (.ld 7 [] .nil)))))))) [7] (by decide +kernel) ?_
                      first | refine GT_st rfl rfl rfl rfl (V_field rfl rfl fo_72_2) ?_ | refine GT_st rfl rfl rfl rfl (V_fieldA rfl rfl fo_72_2) ?_
                      refine GT_st rfl rfl rfl rfl (V_load rfl rfl ag_3 (CellAt.item rfl)) ?_
                      refine GT_st rfl rfl rfl rfl (V_move rfl rfl) ?_
                      first | refine GT_st rfl rfl rfl rfl (V_field rfl rfl fo_72_3) ?_ | refine GT_st rfl rfl rfl rfl (V_fieldA rfl rfl fo_72_3) ?_
                      refine GT_st rfl rfl rfl rfl (V_load rfl rfl ag_2 (CellAt.item rfl)) ?_
                      refine GT_st rfl rfl rfl rfl (V_add rfl rfl rfl (wrap_i64 (by omega))) ?_
                      refine GT_st rfl rfl rfl rfl (V_assign rfl rfl) ?_
                      refine GT_ldv rfl rfl rfl rfl rfl (V_assign rfl rfl) (GR_nil) ?_
                      refine GT_nil ?_
                      refine GE_inBlock ?_
                      refine GE_slots (L' := [(7, _), (9, _), (11, _), (12, _), (47, _), (48, _), (49, _), (66, _), (67, _), (68, _), (69, _), (72, _), (73, _), (74, _), (75, _), (76, _), (77, _)]) ⟨rfl, rfl, rfl, rfl, rfl, rfl, rfl, rfl, rfl, rfl, rfl, rfl, rfl, rfl, rfl, rfl, rfl, trivial⟩ ?_
                      refine GE_plain (.st 0 (.ld 1 [] .nil)) rfl ?_
                      refine GT_st rfl rfl rfl rfl (V_add rfl rfl rfl (wrap_i64 (by omega))) ?_
                      refine GT_ldv rfl rfl rfl rfl rfl (V_move rfl rfl) (GR_nil) ?_
                      refine GT_nil ?_
                      exact GE_to (ih (k + 1, (edgeOf b l (st.getD k default).rule (st.getD k default).samp).1.to, sum + (edgeOf b l (st.getD k default).rule (st.getD k default).samp).1.wt) ⟨by dsimp only; omega, hok, fun q => by cases q⟩ (by dsimp only; omega)) ⟨rfl, rfl, rfl, rfl, rfl, rfl, rfl, trivial⟩ (HS.cons rfl (HS.cons rfl HS.nil))
              · obtain rfl : k = st.length := (by omega); rw [List.take_length] at hfo; have hpr := proves_some hne hfo
                refine GE_exit rfl ?_
                refine GE_seq ?_
                refine GE_seq ?_
                refine GE_slots (L' := [(9, _), (11, _), (12, _)]) ⟨rfl, rfl, rfl, trivial⟩ ?_
                refine GE_plain (.st 0 (.st 1 (.st 2 (.st 3 (.st 4 (.st 5 (.st 6 (.st 7 .nil)))))))) rfl ?_
                refine GT_st rfl rfl rfl rfl (V_move rfl rfl) ?_
                first | refine GT_st rfl rfl rfl rfl (V_field rfl rfl fo_72_1) ?_ | refine GT_st rfl rfl rfl rfl (V_fieldA rfl rfl fo_72_1) ?_
                refine GT_st rfl rfl rfl rfl (V_load rfl rfl ag_3 (CellAt.item rfl)) ?_
                refine GT_st rfl rfl rfl rfl (V_neq rfl rfl rfl) ?_
                refine GT_st rfl rfl rfl rfl (V_move rfl rfl) ?_
                first | refine GT_splitNot (d := 90) rfl (fun h11 => ?_) (fun h11 => ?_) | refine GT_split (d := 90) rfl (fun h11 => ?_) (fun h11 => ?_) | refine GT_splitNotB (d := 90) rfl (fun h11 => ?_) (fun h11 => ?_) | refine GT_splitB (d := 90) rfl (fun h11 => ?_) (fun h11 => ?_)
                · have hbad : provesB b l st = false := (by rw [hpr, decide_eq_false (show ¬ pl = frm0 b l st from h11)]; rfl)
                  refine GT_skip rfl rfl rfl rfl rfl (by decide) rfl rfl ?_
                  refine GT_skip rfl rfl rfl rfl rfl (by decide) rfl rfl ?_
                  refine GT_st rfl rfl rfl rfl (V_pick_t rfl rfl rfl) ?_
                  refine GT_nil ?_
                  refine GE_cond_t rfl ?_
                  refine GE_seq ?_
                  refine GE_slots (L' := []) trivial ?_
                  refine GE_plain (.st 0 .nil) rfl ?_
                  refine GT_st rfl rfl rfl rfl (V_assign rfl rfl) ?_
                  refine GT_nil ?_
                  refine GE_ret Tryz.func11 rfl (fun w hw => ⟨?_, hw.nil⟩)
                  rw [hE, if_neg (by omega), hbad]; rfl
                · skip
                  refine GT_st_g rfl rfl rfl rfl rfl rfl rfl (V_move rfl rfl) ?_
                  refine GT_st_g rfl rfl rfl rfl rfl rfl rfl (V_geq rfl rfl rfl) ?_
                  refine GT_st rfl rfl rfl rfl (V_pick_f rfl rfl rfl) ?_
                  refine GT_nil ?_
                  first | refine GE_condNot rfl (fun h12 => ?_) (fun h12 => ?_) | refine GE_cond rfl (fun h12 => ?_) (fun h12 => ?_) | refine GE_condNotB rfl (fun h12 => ?_) (fun h12 => ?_) | refine GE_condB rfl (fun h12 => ?_) (fun h12 => ?_)
                  · have hbad : provesB b l st = false := (by rw [hpr, decide_eq_false (show ¬ sum < 0 by omega), Bool.and_false])
                    refine GE_seq ?_
                    refine GE_slots (L' := []) trivial ?_
                    refine GE_plain (.st 0 .nil) rfl ?_
                    refine GT_st rfl rfl rfl rfl (V_assign rfl rfl) ?_
                    refine GT_nil ?_
                    refine GE_ret Tryz.func11 rfl (fun w hw => ⟨?_, hw.nil⟩)
                    rw [hE, if_neg (by omega), hbad]; rfl
                  · skip
                    refine GE_skip ?_
                    refine GE_seq ?_
                    refine GE_slots (L' := []) trivial ?_
                    refine GE_plain (.st 0 .nil) rfl ?_
                    refine GT_st rfl rfl rfl rfl (V_assign rfl rfl) ?_
                    refine GT_nil ?_
                    refine GE_ret Tryz.func11 rfl (fun w hw => ⟨?_, hw.nil⟩)
                    rw [hE, if_neg (by omega), hpr, decide_eq_true (show pl = frm0 b l st from h11), decide_eq_true (show sum < 0 by omega)]; rfl
            · exact ⟨Nat.zero_le _, rfl, fun _ => rfl⟩
          · skip
            refine GE_drawn (.st 0 (.st 1 (.st 2 (.st 3 (.st 4 (.st 5 (.st 6 (.st 7 (.st 8 (.br (.ld 9 [] (.st 10 (.st 11 (.st 12 (.ld 13 [0, 1, 2, 3, 4, 5, 6, 7, 8, 10, 11, 12] (.ld 14 [12] (.st 15 .nil))))))) (.ld 13 [0, 1, 2, 3, 4, 5, 6, 7, 8] (.ld 9 [] (.st 10 (.st 11 (.st 12 (.ld 14 [12] (.st 15 .nil))))))))))))))))) [9, 13, 14] (by decide +kernel) ?_
            refine GT_st rfl rfl rfl rfl (V_move rfl rfl) ?_
            refine GT_st rfl rfl rfl rfl (V_move rfl rfl) ?_
            refine GT_st rfl rfl rfl rfl (V_index (k := 0) rfl rfl rfl Tryz.underlying45 sz_70 rfl (by omega) (hs.isSome (k := 0) (by omega))) ?_
            first | refine GT_st rfl rfl rfl rfl (V_field rfl rfl fo_70_0) ?_ | refine GT_st rfl rfl rfl rfl (V_fieldA rfl rfl fo_70_0) ?_
            refine GT_st rfl rfl rfl rfl (V_load rfl rfl ag_3 (hs.at0 noM (by omega) rfl)) ?_
            refine GT_st rfl rfl rfl rfl (V_move rfl rfl) ?_
            refine GT_st rfl rfl rfl rfl (V_index (k := 0) rfl rfl rfl Tryz.underlying45 sz_70 rfl (by omega) (hs.isSome (k := 0) (by omega))) ?_
            first | refine GT_st rfl rfl rfl rfl (V_field rfl rfl fo_70_1) ?_ | refine GT_st rfl rfl rfl rfl (V_fieldA rfl rfl fo_70_1) ?_
            refine GT_st rfl rfl rfl rfl (V_load rfl rfl ag_3 (hs.at1 noM (by omega) rfl)) ?_
            refine GT_br ?_ ?_
            · skip
              refine GT_call0 rfl rfl rfl rfl rfl rfl rfl rfl rn_23 (fun w hw => C_lathe_edge (SideAt.of hw) (hp.sh hw) hb h3 h4) (GR_nil) ?_
              refine GT_st rfl rfl rfl rfl (V_move rfl rfl) ?_
              refine GT_st rfl rfl rfl rfl (V_extract rfl rfl rfl) ?_
              refine GT_st rfl rfl rfl rfl (V_extract rfl rfl rfl) ?_
              refine GT_alloc rfl rfl rfl rfl rfl zc_72 (fun _ => GR_cons rfl rfl rfl rfl (V_move rfl rfl) (GR_cons rfl rfl rfl rfl (V_move rfl rfl) (GR_cons rfl rfl rfl rfl (V_index (k := 0) rfl rfl rfl Tryz.underlying45 sz_70 rfl (by omega) (hs.isSome (k := 0) (by omega))) (GR_cons rfl rfl rfl rfl ((by first | exact V_field rfl rfl fo_70_0 | exact V_fieldA rfl rfl fo_70_0)) (GR_cons rfl rfl rfl rfl (V_load rfl rfl ag_3 (hs.at0 noM (by omega) rfl)) (GR_cons rfl rfl rfl rfl (V_move rfl rfl) (GR_cons rfl rfl rfl rfl (V_index (k := 0) rfl rfl rfl Tryz.underlying45 sz_70 rfl (by omega) (hs.isSome (k := 0) (by omega))) (GR_cons rfl rfl rfl rfl ((by first | exact V_field rfl rfl fo_70_1 | exact V_fieldA rfl rfl fo_70_1)) (GR_cons rfl rfl rfl rfl (V_load rfl rfl ag_3 (hs.at1 noM (by omega) rfl)) (GR_cons rfl rfl rfl rfl (V_move rfl rfl) (GR_cons rfl rfl rfl rfl (V_extract rfl rfl rfl) (GR_cons rfl rfl rfl rfl (V_extract rfl rfl rfl) (GR_nil))))))))))))) (fun b9 => ?_)
              refine GT_store (vs := [_, _, _, _, _]) (l' := [_, _, _, _, _]) rfl rfl rfl rfl rfl rfl rfl sz_72 rfl rfl (Nat.le_of_ble_eq_true rfl) rfl (GR_cons rfl rfl rfl rfl (V_extract rfl rfl rfl) (GR_nil)) ?_
              refine GT_st rfl rfl rfl rfl (V_assign rfl rfl) ?_
              refine GT_nil ?_
              exact GE_to (hk9 b9 trivial) ⟨rfl, rfl, rfl, trivial⟩ (HS.cons rfl (HS.cons rfl HS.nil))
            · skip
              refine GT_alloc rfl rfl rfl rfl rfl zc_72 (fun _ => GR_cons rfl rfl rfl rfl (V_move rfl rfl) (GR_cons rfl rfl rfl rfl (V_move rfl rfl) (GR_cons rfl rfl rfl rfl (V_index (k := 0) rfl rfl rfl Tryz.underlying45 sz_70 rfl (by omega) (hs.isSome (k := 0) (by omega))) (GR_cons rfl rfl rfl rfl ((by first | exact V_field rfl rfl fo_70_0 | exact V_fieldA rfl rfl fo_70_0)) (GR_cons rfl rfl rfl rfl (V_load rfl rfl ag_3 (hs.at0 noM (by omega) rfl)) (GR_cons rfl rfl rfl rfl (V_move rfl rfl) (GR_cons rfl rfl rfl rfl (V_index (k := 0) rfl rfl rfl Tryz.underlying45 sz_70 rfl (by omega) (hs.isSome (k := 0) (by omega))) (GR_cons rfl rfl rfl rfl ((by first | exact V_field rfl rfl fo_70_1 | exact V_fieldA rfl rfl fo_70_1)) (GR_cons rfl rfl rfl rfl (V_load rfl rfl ag_3 (hs.at1 noM (by omega) rfl)) (GR_nil)))))))))) (fun b9 => ?_)
              refine GT_call0 rfl rfl rfl rfl rfl rfl rfl rfl rn_23 (fun w hw => C_lathe_edge (SideAt.of hw) (hp.sh hw) hb h3 h4) (GR_nil) ?_
              refine GT_st rfl rfl rfl rfl (V_move rfl rfl) ?_
              refine GT_st rfl rfl rfl rfl (V_extract rfl rfl rfl) ?_
              refine GT_st rfl rfl rfl rfl (V_extract rfl rfl rfl) ?_
              refine GT_store (vs := [_, _, _, _, _]) (l' := [_, _, _, _, _]) rfl rfl rfl rfl rfl rfl rfl sz_72 rfl rfl (Nat.le_of_ble_eq_true rfl) rfl (GR_cons rfl rfl rfl rfl (V_extract rfl rfl rfl) (GR_nil)) ?_
              refine GT_st rfl rfl rfl rfl (V_assign rfl rfl) ?_
              refine GT_nil ?_
              exact GE_to (hk9 b9 trivial) ⟨rfl, rfl, rfl, trivial⟩ (HS.cons rfl (HS.cons rfl HS.nil))
  · have hE : refE b l st = both b l := if_neg he
    refine Ret_of (vs := [_, _, _]) hm none' Tryz.func11 rfl Tryz.ntmps11 rfl ?_
    dsimp only [slotsOf]
    refine GE_seq ?_
    refine GE_plain (.ld 0 [] (.st 1 .nil)) rfl ?_
    refine GT_box (z := [_, _, _, _, _, _]) rfl rfl rfl rfl rfl rfl rfl (fun _ => GR_nil) (fun b3 => ?_)
    refine GT_st rfl rfl rfl rfl (V_assign rfl rfl) ?_
    refine GT_nil ?_
    refine GE_seq ?_
    refine GE_plain (.st 0 (.st 1 (.ld 2 [] (.st 3 (.st 4 (.st 5 (.st 6 (.st 7 .nil)))))))) rfl ?_
    refine GT_st rfl rfl rfl rfl (V_loadN (vs := [_, _, _, _, _, _]) rfl rfl ag_28 sz_28 rfl (CellsAt.item rfl)) ?_
    refine GT_st rfl rfl rfl rfl (V_move rfl rfl) ?_
    refine GT_call0 rfl rfl rfl rfl rfl rfl rfl rfl rn_16 (fun w hw => C_lathe_newSide_err (hp.sh hw) he) (GR_nil) ?_
    refine GT_st rfl rfl rfl rfl (V_move rfl rfl) ?_
    refine GT_st rfl rfl rfl rfl (V_extract rfl rfl rfl) ?_
    refine GT_st rfl rfl rfl rfl (V_extract rfl rfl rfl) ?_
    refine GT_st rfl rfl rfl rfl (V_assign rfl rfl) ?_
    refine GT_st rfl rfl rfl rfl (V_assign rfl rfl) ?_
    refine GT_nil ?_
    refine GE_seq ?_
    refine GE_seq ?_
    refine GE_slots (L' := [(2, _), (7, _), (8, _)]) ⟨rfl, rfl, rfl, trivial⟩ ?_
    refine GE_plain (.st 0 (.st 1 .nil)) rfl ?_
    refine GT_st rfl rfl rfl rfl (V_move rfl rfl) ?_
    refine GT_st rfl rfl rfl rfl (V_neq rfl rfl rfl) ?_
    refine GT_nil ?_
    first | refine GE_condNot rfl (fun h5 => ?_) (fun h5 => ?_) | refine GE_cond rfl (fun h5 => ?_) (fun h5 => ?_) | refine GE_condNotB rfl (fun h5 => ?_) (fun h5 => ?_) | refine GE_condB rfl (fun h5 => ?_) (fun h5 => ?_)
    · skip
      refine GE_seq ?_
      refine GE_slots (L' := [(8, _)]) ⟨rfl, trivial⟩ ?_
      refine GE_plain (.st 0 (.st 1 .nil)) rfl ?_
      refine GT_st rfl rfl rfl rfl (V_move rfl rfl) ?_
      refine GT_st rfl rfl rfl rfl (V_assign rfl rfl) ?_
      refine GT_nil ?_
      refine GE_ret Tryz.func11 rfl (fun w hw => ⟨?_, hw.nil⟩)
      rw [hE]; rfl
    · exact absurd h5 he
end
end Go.Proofs.YtogljfjbilndnaaGreatDoor.Lathe
/- What the search finds is a proof, from each step of a circle on; a way is not without an end. In plain Lean. -/
namespace Go.Proofs.YtogljfjbilndnaaGreatDoor.Lathe
open Go.Sx

theorem back_plus (last : List Edge) (v : Int) (i : Nat) : ∀ j, back last (i + j) v = back last j (back last i v)
  | 0 => rfl
  | j + 1 => by
    have e : back last (i + (j + 1)) v = par last (back last (i + j) v) := rfl
    rw [e, back_plus last v i j]; rfl
theorem cedges_add (last : List Edge) (v : Int) (i : Nat) : ∀ j, cedges last v (i + j) = cedges last (back last i v) j ++ cedges last v i
  | 0 => rfl
  | j + 1 => by
    have e : cedges last v (i + (j + 1)) = (last.getD (back last (i + j) v).toNat default) :: cedges last v (i + j) := rfl
    rw [e, cedges_add last v i j, back_plus]; rfl
/-- a circle, turned -/
theorem cedges_turn (last : List Edge) (v : Int) {m k : Nat} (hm : back last m v = v) (hk : k ≤ m) : (cedges last v m).drop k ++ (cedges last v m).take k = cedges last (back last (m - k) v) m := by
  have e1 : cedges last v m = cedges last (back last (m - k) v) k ++ cedges last v (m - k) := by
    have := cedges_add last v (m - k) k
    rwa [show m - k + k = m by omega] at this
  have e2 : cedges last (back last (m - k) v) m = cedges last v (m - k) ++ cedges last (back last (m - k) v) k := by
    have := cedges_add last (back last (m - k) v) k (m - k)
    rw [← back_plus, show m - k + k = m by omega, hm, show k + (m - k) = m by omega] at this
    exact this
  have e3 : (cedges last (back last (m - k) v) k).length = k := cedges_len _ _ _
  rw [e2, e1, List.drop_left' e3, List.take_left' e3]
/-- a way whose steps do not raise what R says, with a sum that is not below 0 -/
theorem back_sum {s : Srch} {tau : Int → Nat} {v : Int} : ∀ m, (∀ i, i < m → R s (back s.last (i + 1) v) + (Lst s (back s.last i v)).wt ≤ R s (back s.last i v) ∧ (R s (back s.last i v) = R s (back s.last (i + 1) v) + (Lst s (back s.last i v)).wt → tau (back s.last (i + 1) v) < tau (back s.last i v))) →
    R s (back s.last m v) + wsum s.last v m ≤ R s v ∧ (R s v = R s (back s.last m v) + wsum s.last v m → tau (back s.last m v) + m ≤ tau v)
  | 0, _ => ⟨by show R s v + 0 ≤ R s v; omega, fun _ => Nat.le_refl _⟩
  | m + 1, h => by
    obtain ⟨h1, h2⟩ := back_sum m (fun i hi => h i (by omega))
    obtain ⟨h3, h4⟩ := h m (by omega)
    have e : wsum s.last v (m + 1) = wsum s.last v m + (Lst s (back s.last m v)).wt := rfl
    rw [e]
    refine ⟨by omega, fun hq => ?_⟩
    have h5 := h2 (by omega)
    have h6 := h4 (by omega)
    omega

/-- what a proof ends on -/
theorem pfold_last {b : Blank} {l : List Pt} {st : List Stp} {f0 : Int} {x : Stp} {q : Nat} {pl sum : Int} (h : pfold b l (st ++ [x]) f0 = some (q, pl, sum)) : pl = (edgeOf b l x.rule x.samp).1.to := by
  unfold pfold at h
  rw [List.foldl_append] at h
  generalize st.foldl (pst b l) (some (0, f0, 0)) = o at h
  cases o with
  | none => cases h
  | some o =>
    obtain ⟨k, p, s⟩ := o
    simp only [List.foldl_cons, List.foldl_nil, pst] at h
    split at h
    · cases h; rfl
    · cases h
/-- an open way is no proof -/
theorem open_way {b : Blank} {l : List Pt} {st : List Stp} {x : Stp} (h : (edgeOf b l x.rule x.samp).1.to ≠ frm0 b l (st ++ [x])) : provesB b l (st ++ [x]) = false := by
  unfold provesB
  cases hf : pfold b l (st ++ [x]) (frm0 b l (st ++ [x])) with
  | none => simp
  | some o =>
    obtain ⟨q, pl, sum⟩ := o
    have := pfold_last hf
    subst this
    simp [h]

/-- what is known of the steps that are found -/
structure Found (b : Blank) (l : List Pt) (st : List Stp) : Prop where
  len : st.length ≤ 16384
  right : provesB b l st = true
  turned : (st.getD 0 default).rule ≠ 1 → ∀ k, k ≤ st.length → provesB b l (st.drop k ++ st.take k) = true
  ends : (st.getD 0 default).rule = 1 → 2 ≤ st.length ∧ provesB b l (st.drop 1) = false ∧ provesB b l (st.take (st.length - 1)) = false
theorem circ_found {b : Blank} {l : List Pt} (hb : b.ok = true) (hp : PtB l) (hl : l.length ≤ 4096) (hc : (settled b l).ch ≠ -1) {m : Nat} (hm : Circ (settled b l).last (back (settled b l).last l.length (settled b l).ch) m) : Found b l (csteps (settled b l).last (back (settled b l).last l.length (settled b l).ch) m).reverse := by
  obtain ⟨p, t, rho, tau, h1, h2, h3⟩ := settled_inv hb hp
  obtain ⟨g1, g2, m', hm0, hml, hm'⟩ := h1.circle (edges_edgeList hb hp) (h2 hc) hc
  obtain ⟨c1, c2, c3⟩ := hm
  generalize hv : back (settled b l).last l.length (settled b l).ch = v at *
  have hst : (csteps (settled b l).last v m).reverse = (cedges (settled b l).last v m).map Edge.stp := cedges_rev _ _ _
  have hlen : m ≤ l.length := by
    rcases Nat.lt_or_ge m' m with h | h
    · exact absurd hm' (c3 m' hm0 h)
    · omega
  have key : ∀ j, Self b l (Lst (settled b l) (back (settled b l).last j v)) ∧ (Lst (settled b l) (back (settled b l).last j v)).to = back (settled b l).last j v ∧ back (settled b l).last (j + 1) v ≠ -1 ∧ ((Lst (settled b l) (back (settled b l).last j v)).rule = 3 ∨ (Lst (settled b l) (back (settled b l).last j v)).rule = 4 ∨ (Lst (settled b l) (back (settled b l).last j v)).rule = 5) := by
    intro j
    have e : back (settled b l).last j v = back (settled b l).last (l.length + j) (settled b l).ch := by rw [back_plus, hv]
    have e2 : back (settled b l).last (j + 1) v = back (settled b l).last (l.length + j + 1) (settled b l).ch := by rw [Nat.add_assoc l.length j 1, back_plus (settled b l).last (settled b l).ch l.length (j + 1), hv]
    rw [e, e2]
    have q1 := isEdge_self (mem_edgeList.1 (g2 (l.length + j)).1)
    have q2 := g1 (l.length + j)
    have q3 := g1 (l.length + j + 1)
    refine ⟨q1.1, ?_, by unfold In at q3; omega, q1.2⟩
    have hr0 : 0 < rho (back (settled b l).last (l.length + j) (settled b l).ch) := by
      rcases Nat.eq_zero_or_pos (rho (back (settled b l).last (l.length + j) (settled b l).ch)) with h0 | h0
      · exfalso
        have := (h1.zero _ q2 h0).1
        have e3 : back (settled b l).last (l.length + j + 1) (settled b l).ch = (Lst (settled b l) (back (settled b l).last (l.length + j) (settled b l).ch)).frm := rfl
        rw [e3, this] at q3
        unfold In e0 at q3; dsimp only at q3; omega
      · exact h0
    exact (h1.anc _ q2 hr0).2.1
  have hneg : ∀ j, back (settled b l).last m (back (settled b l).last j v) = back (settled b l).last j v → wsum (settled b l).last (back (settled b l).last j v) m < 0 := by
    intro j hj
    have := back_sum (s := settled b l) (tau := tau) (v := back (settled b l).last j v) m (fun i _ => by
      have e : back (settled b l).last i (back (settled b l).last j v) = back (settled b l).last (l.length + (j + i)) (settled b l).ch := by rw [back_plus _ _ l.length, hv, back_plus]
      have e2 : back (settled b l).last (i + 1) (back (settled b l).last j v) = back (settled b l).last (l.length + (j + i) + 1) (settled b l).ch := by rw [Nat.add_assoc, back_plus _ _ l.length, hv, Nat.add_assoc, back_plus _ _ j]
      rw [e, e2]
      exact (g2 _).2)
    rw [hj] at this
    obtain ⟨t1, t2⟩ := this
    rcases Int.lt_or_le (wsum (settled b l).last (back (settled b l).last j v) m) 0 with h | h
    · exact h
    · have := t2 (by omega); omega
  have hper : ∀ j, back (settled b l).last m (back (settled b l).last j v) = back (settled b l).last j v := by
    intro j
    rw [← back_plus, Nat.add_comm, back_plus, c2]
  have hpr : ∀ j, provesB b l ((cedges (settled b l).last (back (settled b l).last j v) m).map Edge.stp) = true := fun j =>
    circle_proves c1 (hper j) (fun i => by rw [← back_plus, ← back_plus]; exact ⟨(key (j + i)).1, (key (j + i)).2.1, (key (j + i)).2.2.1⟩) (hneg j (hper j))
  rw [hst]
  refine ⟨by rw [List.length_map, cedges_len]; omega, hpr 0, fun _ k hk => ?_, fun h => ?_⟩
  · rw [List.length_map, cedges_len] at hk
    rw [← List.map_drop, ← List.map_take, ← List.map_append, cedges_turn _ _ c2 hk]
    exact hpr _
  · exfalso
    obtain ⟨n, rfl⟩ : ∃ n, m = n + 1 := ⟨m - 1, by omega⟩
    have e : ((cedges (settled b l).last v (n + 1)).map Edge.stp).getD 0 default = (Lst (settled b l) (back (settled b l).last n v)).stp := rfl
    rw [e] at h
    have := (key n).2.2.2
    have e2 : (Lst (settled b l) (back (settled b l).last n v)).stp.rule = (Lst (settled b l) (back (settled b l).last n v)).rule := rfl
    omega
theorem e0_self {b : Blank} {l : List Pt} {i : Int} (hi : In l.length i) : Self b l (e0 b l i) := by
  unfold Self e0
  dsimp only
  rw [edgeOf_one hi]; rfl
theorem way_len {b : Blank} {l : List Pt} {v : Int} {m : Nat} (h : Way b l (settled b l) v m) : m ≤ l.length := by
  rcases Nat.lt_or_ge l.length m with hlt | hge
  · exfalso
    obtain ⟨i, j, hij, hj, e⟩ := pigeon l.length (fun i => (back (settled b l).last i v).toNat) (fun i hi => by have := h.ins i (by omega); unfold In at this; omega)
    have q1 := h.ins i (by omega)
    have q2 := h.ins j (by omega)
    unfold In at q1 q2
    have e1 : back (settled b l).last i v = back (settled b l).last j v := by omega
    have e2 : back (settled b l).last (i + (m - j)) v = back (settled b l).last (j + (m - j)) v := by rw [back_plus, back_plus, e1]
    rw [show j + (m - j) = m by omega, h.rim] at e2
    have q3 := h.ins (i + (m - j)) (by omega)
    unfold In at q3; omega
  · exact hge
theorem way_found {b : Blank} {l : List Pt} (hb : b.ok = true) (hp : PtB l) (hl : l.length ≤ 4096) {i m : Nat} (hi : i < l.length) (hlt : (settled b l).r.getD i default + (edgeOf b l 2 i).1.wt < 0) (h : Way b l (settled b l) i m) : Found b l (wsteps (settled b l).last (edgeOf b l 2 i).1 m).reverse := by
  have hin : In l.length (i : Int) := ⟨by omega, by omega⟩
  have hx2 := edgeOf_two (b := b) hin
  have hx : Self b l (edgeOf b l 2 i).1 := by unfold Self; rw [hx2]; exact hx2
  have hfr : (edgeOf b l 2 i).1.frm = i := by rw [hx2]
  have hto : (edgeOf b l 2 i).1.to = -1 := by rw [hx2]
  generalize (edgeOf b l 2 i).1 = x at *
  have hlen := way_len h
  have key : ∀ j, j < m → Self b l (Lst (settled b l) (back (settled b l).last j i)) ∧ (Lst (settled b l) (back (settled b l).last j i)).to = back (settled b l).last j i ∧ back (settled b l).last j i ≠ -1 := by
    intro j hj
    have q := h.ins j hj
    refine ⟨?_, ?_, by unfold In at q; omega⟩
    · rcases Nat.lt_or_ge (j + 1) m with h1 | h1
      · exact (isEdge_self (mem_edgeList.1 (h.mem j h1))).1
      · have e := h.lst
        rw [show m - 1 = j by omega] at e
        rw [e]; exact e0_self q
    · rcases Nat.lt_or_ge (j + 1) m with h1 | h1
      · exact h.to j h1
      · have e := h.lst
        rw [show m - 1 = j by omega] at e
        rw [e]; rfl
  have hst : (wsteps (settled b l).last x m).reverse = (cedges (settled b l).last i m).map Edge.stp ++ [x.stp] := by
    unfold wsteps
    rw [List.reverse_cons, hfr, cedges_rev]
  have hright : provesB b l ((cedges (settled b l).last i m).map Edge.stp ++ [x.stp]) = true := by
    have := way_proves (s := settled b l) (m := m) hx hto (by omega) h.pos (by rw [hfr]; exact h.rim) (fun j hj => by rw [hfr]; exact key j hj) (by
      rw [hfr]
      have h1 := h.sum
      have e : R (settled b l) (i : Int) = (settled b l).r.getD i default := rfl
      omega)
    rw [hfr] at this; exact this
  rw [hst]
  obtain ⟨n, rfl⟩ : ∃ n, m = n + 1 := ⟨m - 1, by have := h.pos; omega⟩
  have e1 : cedges (settled b l).last i (n + 1) = Lst (settled b l) (back (settled b l).last n i) :: cedges (settled b l).last i n := rfl
  have efirst : Lst (settled b l) (back (settled b l).last n i) = e0 b l (back (settled b l).last n i) := h.lst
  have hself : ∀ y : Edge, Self b l y → edgeOf b l y.stp.rule y.stp.samp = (y, true) := fun y hy => hy
  refine ⟨by rw [List.length_append, List.length_map, cedges_len]; simp only [List.length_singleton]; omega, hright, fun hne => ?_, fun _ => ⟨by rw [List.length_append, List.length_map, cedges_len]; simp only [List.length_singleton]; omega, ?_, ?_⟩⟩
  · exfalso
    rw [e1, efirst] at hne
    exact hne rfl
  · have e2 : ((cedges (settled b l).last i (n + 1)).map Edge.stp ++ [x.stp]).drop 1 = (cedges (settled b l).last i n).map Edge.stp ++ [x.stp] := rfl
    rw [e2]
    apply open_way
    rw [hself x hx, hto]
    cases n with
    | zero =>
      have e3 : frm0 b l ((cedges (settled b l).last i 0).map Edge.stp ++ [x.stp]) = (edgeOf b l x.stp.rule x.stp.samp).1.frm := rfl
      rw [e3, hself x hx, hfr]; omega
    | succ q =>
      have e3 : frm0 b l ((cedges (settled b l).last i (q + 1)).map Edge.stp ++ [x.stp]) = (edgeOf b l (Lst (settled b l) (back (settled b l).last q i)).stp.rule (Lst (settled b l) (back (settled b l).last q i)).stp.samp).1.frm := rfl
      rw [e3, hself _ (key q (by omega)).1]
      exact fun e => (key (q + 1) (by omega)).2.2 e.symm
  · have e2 : ((cedges (settled b l).last i (n + 1)).map Edge.stp ++ [x.stp]).take (((cedges (settled b l).last i (n + 1)).map Edge.stp ++ [x.stp]).length - 1) = (cedges (settled b l).last i (n + 1)).map Edge.stp := by
      rw [List.length_append, List.length_singleton, Nat.add_sub_cancel]
      exact List.take_left
    have e3 : cedges (settled b l).last i (n + 1) = cedges (settled b l).last (back (settled b l).last 1 i) n ++ [Lst (settled b l) i] := by
      have := cedges_add (settled b l).last i 1 n
      rw [Nat.add_comm 1 n] at this
      exact this
    have e4 : frm0 b l ((cedges (settled b l).last i (n + 1)).map Edge.stp) = -1 := by
      have e5 : frm0 b l ((cedges (settled b l).last i (n + 1)).map Edge.stp) = (edgeOf b l (Lst (settled b l) (back (settled b l).last n i)).stp.rule (Lst (settled b l) (back (settled b l).last n i)).stp.samp).1.frm := rfl
      rw [e5, hself _ (key n (by omega)).1]
      exact h.rim
    rw [e2]
    rw [e3, List.map_append] at e4 ⊢
    apply open_way
    have k0 := key 0 (by omega)
    have e6 : edgeOf b l (Lst (settled b l) i).stp.rule (Lst (settled b l) i).stp.samp = (Lst (settled b l) i, true) := hself _ k0.1
    have e7 : (Lst (settled b l) i).to = i := k0.2.1
    rw [e6]
    show (Lst (settled b l) i).to ≠ frm0 b l (List.map Edge.stp (cedges (settled b l).last (back (settled b l).last 1 i) n) ++ List.map Edge.stp [Lst (settled b l) i])
    rw [e4, e7]; omega
theorem search_found {b : Blank} {l : List Pt} {rad : List Int} {st : List Stp} (he : both b l = 0) (h : Search b l rad st) (h0 : 0 < st.length) : Found b l st := by
  obtain ⟨hb, hl, hpt⟩ := both_zero.1 he
  have hp := ptB_of hpt
  rcases h with ⟨h1, _, m, hm, rfl⟩ | ⟨h1, _, i, hi, hlt, m, hm, rfl⟩ | ⟨_, _, rfl, _⟩
  · exact circ_found hb hp hl h1 hm
  · exact way_found hb hp hl hi hlt hm
  · simp at h0
end Go.Proofs.YtogljfjbilndnaaGreatDoor.Lathe
/- The works of chapter 05, and a groove without a signal. -/
namespace Go.Proofs.YtogljfjbilndnaaGreatDoor.Side
open Go.Sx Go.Proofs Go.RowKit Lathe

def w5L : List Pt := [⟨-20, 20⟩, ⟨-20, 20⟩, ⟨-20, 20⟩, ⟨-20, 50⟩, ⟨-20, 20⟩]
def w5B : Blank := ⟨2, 1000, 100, 10, 1, 100⟩
def w5R : List Int := outR w5B w5L
theorem w5_err : outE w5B w5L = 0 := by kernel_rfl
theorem w5_len : w5R.length = 5 := by kernel_rfl
theorem w5_at : w5R.getD 3 default = 899 := by kernel_rfl
def fE : Fmt := ⟨⟨#[102]⟩, 1000, 400, 10, 0, 0, 0, 0⟩
def tE : Trk := ⟨95, 20, 0⟩
theorem nm_f : (1 ≤ (⟨#[102]⟩ : ByteArray).size ∧ (⟨#[102]⟩ : ByteArray).size ≤ 20) ∧ ∀ i, i < (⟨#[102]⟩ : ByteArray).size → 97 ≤ ((byz ⟨#[102]⟩).getD i default).toNat ∧ ((byz ⟨#[102]⟩).getD i default).toNat ≤ 122 := by
  refine ⟨by decide, fun i hi => ?_⟩
  obtain rfl : i = 0 := by
    have : (⟨#[102]⟩ : ByteArray).size = 1 := rfl
    omega
  decide
theorem fE_ok : fE.Ok := ⟨nm_f, by decide, by decide, by decide, by decide, by decide, by decide, by decide⟩
theorem tE_ok : tE.Ok := ⟨by decide, by decide, by decide⟩
section
variable {w : World} {A : Option Addr} {c n : Nat} {h : Int}
theorem C_Out5 (hp : RdL w 2 ePt A w5L) : Con Tryz.prog 7 [.agg #[I 2, I 1000, I 100, I 10, I 1, I 100], .slice A 5 c] w (fun y : Option Addr × Nat × Items => Own 1 2 eI w5R (.slice y.1 5 y.2.1) y.2.2) (fun y => .tuple #[.slice y.1 5 y.2.1, I 0]) (fun y => y.2.2) := by
  have h1 := C_lathe_Outermost (b := w5B) (c := c) hp
  rw [w5_err, show outR w5B w5L = w5R from rfl, w5_len] at h1
  exact h1
set_option maxRecDepth 10000 in
theorem C_works05 : Con0 Tryz.prog 4 [] w (.bool true) := by
  refine Ret_of (vs := []) hm none' Tryz.func4 rfl Tryz.ntmps4 rfl ?_
  dsimp only [slotsOf]
  refine GE_seq ?_
  refine GE_plain (.st 0 .nil) rfl ?_
  refine GT_st rfl rfl rfl rfl (V_assign rfl rfl) ?_
  refine GT_nil ?_
  refine GE_seq ?_
  refine GE_plain (.st 0 (.st 1 (.ld 2 [] (.ld 3 [] (.ld 4 [] (.ld 5 [] .nil)))))) rfl ?_
  refine GT_st rfl rfl rfl rfl (V_build (vs := [_, _]) rfl rfl zc_53 pl_53 sa_53 rfl) ?_
  refine GT_st rfl rfl rfl rfl (V_build (vs := [_, _]) rfl rfl zc_53 pl_53 sa_53 rfl) ?_
  refine GT_alloc rfl rfl rfl rfl rfl zc_53 (fun _ => GR_nil) (fun b1 => ?_)
  refine GT_alloc rfl rfl rfl rfl rfl zc_53 (fun _ => GR_nil) (fun b2 => ?_)
  refine GT_store (vs := [_, _]) (l' := [_, _]) rfl rfl rfl rfl rfl rfl rfl sz_53 rfl rfl (Nat.le_of_ble_eq_true rfl) rfl (GR_nil) ?_
  refine GT_store (vs := [_, _]) (l' := [_, _]) rfl rfl rfl rfl rfl rfl rfl sz_53 rfl rfl (Nat.le_of_ble_eq_true rfl) rfl (GR_nil) ?_
  refine GT_nil ?_
  refine GE_seq ?_
  refine GE_plain (.st 0 (.ld 1 [] (.ld 2 [] .nil))) rfl ?_
  refine GT_st rfl rfl rfl rfl (V_build (vs := [_, _, _, _, _, _]) rfl rfl zc_28 pl_28 sa_28 rfl) ?_
  refine GT_alloc rfl rfl rfl rfl rfl zc_28 (fun _ => GR_nil) (fun b3 => ?_)
  refine GT_store (vs := [_, _, _, _, _, _]) (l' := [_, _, _, _, _, _]) rfl rfl rfl rfl rfl rfl rfl sz_28 rfl rfl (Nat.le_of_ble_eq_true rfl) rfl (GR_nil) ?_
  refine GT_nil ?_
  refine GE_seq ?_
  refine GE_slots (L' := [(1, _), (2, _), (3, _)]) ⟨rfl, rfl, rfl, trivial⟩ ?_
  refine GE_plain (.st 0 (.st 1 (.st 2 (.st 3 (.st 4 (.st 5 (.ld 6 [] (.ld 7 [] (.st 8 (.st 9 (.st 10 (.st 11 (.st 12 .nil))))))))))))) rfl ?_
  refine GT_st rfl rfl rfl rfl (V_loadN (vs := [_, _, _, _, _, _]) rfl rfl ag_28 sz_28 rfl (CellsAt.item rfl)) ?_
  refine GT_st rfl rfl rfl rfl (V_loadN (vs := [_, _]) rfl rfl ag_53 sz_53 rfl (CellsAt.item rfl)) ?_
  refine GT_st rfl rfl rfl rfl (V_loadN (vs := [_, _]) rfl rfl ag_53 sz_53 rfl (CellsAt.item rfl)) ?_
  refine GT_st rfl rfl rfl rfl (V_loadN (vs := [_, _]) rfl rfl ag_53 sz_53 rfl (CellsAt.item rfl)) ?_
  refine GT_st rfl rfl rfl rfl (V_loadN (vs := [_, _]) rfl rfl ag_53 sz_53 rfl (CellsAt.item rfl)) ?_
  refine GT_st rfl rfl rfl rfl (V_loadN (vs := [_, _]) rfl rfl ag_53 sz_53 rfl (CellsAt.item rfl)) ?_
  refine GT_buildSlice (z := [_, _, _, _, _, _, _, _, _, _]) rfl rfl rfl rfl rfl Tryz.underlying30 zc_53 sz_53 (by decide) rfl rfl (fun _ => GR_nil) (fun b18 => ?_)
  refine GT_call rfl rfl rfl rfl rfl rfl rfl rfl rn_7 (fun w hw => C_Out5 (RdL.own' (l := w5L) hw ePt_len)) (fun _ _ => GR_nil) (fun y hy => ?_)
  refine GT_st rfl rfl rfl rfl (V_move rfl rfl) ?_
  refine GT_st rfl rfl rfl rfl (V_extract rfl rfl rfl) ?_
  refine GT_st rfl rfl rfl rfl (V_extract rfl rfl rfl) ?_
  refine GT_st rfl rfl rfl rfl (V_assign rfl rfl) ?_
  refine GT_st rfl rfl rfl rfl (V_assign rfl rfl) ?_
  refine GT_nil ?_
  refine GE_seq ?_
  refine GE_slots (L' := [(4, _), (5, _)]) ⟨rfl, rfl, trivial⟩ ?_
  refine GE_plain (.st 0 (.st 1 (.ld 2 [] (.st 3 (.st 4 (.st 5 (.st 6 (.st 7 .nil)))))))) rfl ?_
  refine GT_st rfl rfl rfl rfl (V_build (vs := [_, _, _, _, _, _, _, _]) rfl rfl zc_24 pl_24 sa_24 rfl) ?_
  refine GT_st rfl rfl rfl rfl (V_build (vs := [_, _, _]) rfl rfl zc_26 pl_26 sa_26 rfl) ?_
  refine GT_call0 rfl rfl rfl rfl rfl rfl rfl rfl rn_8 (fun w hw => C_Width (f := fE) (t := tE) fE_ok tE_ok) (GR_nil) ?_
  refine GT_st rfl rfl rfl rfl (V_move rfl rfl) ?_
  refine GT_st rfl rfl rfl rfl (V_extract rfl rfl rfl) ?_
  refine GT_st rfl rfl rfl rfl (V_extract rfl rfl rfl) ?_
  refine GT_st rfl rfl rfl rfl (V_assign rfl rfl) ?_
  refine GT_st rfl rfl rfl rfl (V_assign rfl rfl) ?_
  refine GT_nil ?_
  refine GE_seq ?_
  refine GE_slots (L' := [(4, _), (5, _), (6, _), (7, _)]) ⟨rfl, rfl, rfl, rfl, trivial⟩ ?_
  refine GE_plain (.st 0 (.st 1 (.st 2 (.st 3 (.st 4 (.st 5 (.st 6 (.st 7 (.st 8 (.st 9 (.st 10 (.st 11 (.st 12 (.st 13 (.st 14 (.st 15 (.st 16 (.st 17 (.st 18 (.st 19 (.st 20 (.st 21 (.ld 22 [] (.st 23 (.st 24 .nil))))))))))))))))))))))))) rfl ?_
  refine GT_st rfl rfl rfl rfl (V_move rfl rfl) ?_
  refine GT_st rfl rfl rfl rfl (V_isT (V_eql rfl rfl rfl) rfl) ?_
  refine GT_st rfl rfl rfl rfl (V_move rfl rfl) ?_
  refine GT_st_g rfl rfl rfl rfl rfl rfl rfl (V_move rfl rfl) ?_
  refine GT_st_g rfl rfl rfl rfl rfl rfl rfl (V_isT (V_eql rfl rfl rfl) rfl) ?_
  refine GT_st rfl rfl rfl rfl (V_pick_t rfl rfl rfl) ?_
  refine GT_st rfl rfl rfl rfl (V_move rfl rfl) ?_
  refine GT_st_g rfl rfl rfl rfl rfl rfl rfl (V_move rfl rfl) ?_
  refine GT_st_g rfl rfl rfl rfl rfl rfl rfl (V_len rfl Tryz.underlying38 rfl) ?_
  refine GT_st_g rfl rfl rfl rfl rfl rfl rfl (V_isT (V_eql rfl rfl rfl) rfl) ?_
  refine GT_st rfl rfl rfl rfl (V_pick_t rfl rfl rfl) ?_
  refine GT_st rfl rfl rfl rfl (V_move rfl rfl) ?_
  refine GT_st_g rfl rfl rfl rfl rfl rfl rfl (V_move rfl rfl) ?_
  refine GT_st_g rfl rfl rfl rfl rfl rfl rfl (V_index (k := 3) rfl rfl rfl Tryz.underlying38 sz_2 rfl (by decide) (hy.isSome (k := 3) (by rw [w5_len]; decide))) ?_
  refine GT_st_g rfl rfl rfl rfl rfl rfl rfl (V_load rfl rfl ag_2 (CellAt.own0 hy eI_len (k := 3) (by rw [w5_len]; decide) (by rw [w5_at]; rfl))) ?_
  refine GT_st_g rfl rfl rfl rfl rfl rfl rfl (V_isT (V_eql rfl rfl rfl) rfl) ?_
  refine GT_st rfl rfl rfl rfl (V_pick_t rfl rfl rfl) ?_
  refine GT_st rfl rfl rfl rfl (V_move rfl rfl) ?_
  refine GT_st_g rfl rfl rfl rfl rfl rfl rfl (V_move rfl rfl) ?_
  refine GT_st_g rfl rfl rfl rfl rfl rfl rfl (V_isT (V_eql rfl rfl rfl) (by decide)) ?_
  refine GT_st rfl rfl rfl rfl (V_pick_t rfl rfl rfl) ?_
  refine GT_st rfl rfl rfl rfl (V_move rfl rfl) ?_
  refine GT_call0_g rfl rfl rfl rfl rfl rfl rfl rfl rfl rfl rfl rn_12 (fun w hw => C_works03) (GR_nil) ?_
  refine GT_st rfl rfl rfl rfl (V_pick_t rfl rfl rfl) ?_
  refine GT_st rfl rfl rfl rfl (V_assign rfl rfl) ?_
  refine GT_nil ?_
  refine GE_ret Tryz.func4 rfl (fun w hw => ⟨?_, hw.nil⟩)
  rfl
theorem sil_succ (h : Int) (k : Nat) : silL h k ++ [⟨-h, h⟩] = silL h (k + 1) := (List.replicate_succ' ..).symm
theorem C_silent (hn : n ≤ 60) (hh : 1 ≤ h ∧ h ≤ 1000) : Con Tryz.prog 5 [I h, I n] w (fun y : Option Addr × Nat × Items => Own 2 53 ePt (silL h n) (.slice y.1 n y.2.1) y.2.2) (fun y => .slice y.1 n y.2.1) (fun y => y.2.2) := by
  refine Ret_of (vs := [_, _]) hm none' Tryz.func5 rfl Tryz.ntmps5 rfl ?_
  dsimp only [slotsOf]
  refine GE_seq ?_
  refine GE_plain (.st 0 .nil) rfl ?_
  refine GT_st rfl rfl rfl rfl (V_assign rfl rfl) ?_
  refine GT_nil ?_
  refine GE_seq ?_
  refine GE_plain (.st 0 .nil) rfl ?_
  refine GT_st rfl rfl rfl rfl (V_assign rfl rfl) ?_
  refine GT_nil ?_
  refine GE_seq ?_
  refine GE_seq ?_
  refine GE_plain (.st 0 .nil) rfl ?_
  refine GT_st rfl rfl rfl rfl (V_assign rfl rfl) ?_
  refine GT_nil ?_
  refine GE_block ?_
  refine GE_to (GE_loop (ι := Nat × (Option Addr × Nat × Items)) (fun z => n - z.1) (fun z => [(0, I h), (1, I n), (5, .slice z.2.1 (silL h z.1).length z.2.2.1), (6, I z.1)]) (fun z => z.2.2.2) (fun z => z.1 ≤ n ∧ Own 2 53 ePt (silL h z.1) (.slice z.2.1 (silL h z.1).length z.2.2.1) z.2.2.2) ?_ (0, (none, 0, [])) ?_) ⟨rfl, rfl, rfl, rfl, trivial⟩ HS.nil
  · rintro ⟨k, y⟩ ⟨hk, hO⟩ ih; dsimp only at hk hO ih ⊢
    refine GE_seq ?_
    refine GE_seq ?_
    refine GE_plain (.st 0 (.st 1 (.st 2 .nil))) rfl ?_
    refine GT_st rfl rfl rfl rfl (V_move rfl rfl) ?_
    refine GT_st rfl rfl rfl rfl (V_move rfl rfl) ?_
    refine GT_st rfl rfl rfl rfl (V_lss rfl rfl rfl) ?_
    refine GT_nil ?_
    first | refine GE_condNot rfl (fun q1 => ?_) (fun q1 => ?_) | refine GE_cond rfl (fun q1 => ?_) (fun q1 => ?_) | refine GE_condNotB rfl (fun q1 => ?_) (fun q1 => ?_) | refine GE_condB rfl (fun q1 => ?_) (fun q1 => ?_)
    · skip
      refine GE_skip ?_
      refine GE_seq ?_
      refine GE_block ?_
      refine GE_plain (.st 0 (.st 1 (.st 2 (.st 3 (.st 4 (.ld 5 [] (.ld 6 [] (.ld 7 [] .nil)))))))) rfl ?_
      refine GT_st rfl rfl rfl rfl (V_move rfl rfl) ?_
      refine GT_st rfl rfl rfl rfl (V_move rfl rfl) ?_
      refine GT_st rfl rfl rfl rfl (V_neg rfl rfl ((show IntKind.i64.wrap (0 - h) = -h from (wrap_i64 (by omega)).trans (by omega)))) ?_
      refine GT_st rfl rfl rfl rfl (V_move rfl rfl) ?_
      refine GT_st rfl rfl rfl rfl (V_build (vs := [_, _]) rfl rfl zc_53 pl_53 sa_53 rfl) ?_
      refine GT_buildSlice (z := [_, _]) rfl rfl rfl rfl rfl Tryz.underlying30 zc_53 sz_53 (by decide) rfl rfl (fun _ => GR_nil) (fun b17 => ?_)
      refine GT_append (enc := ePt) (l := silL h k) (m := [⟨-h, h⟩]) rfl rfl rfl rfl rfl rfl rfl hO (fun w m => RdL.own' m ePt_len) Tryz.underlying30 zc_53 sz_53 ⟨rfl, by decide⟩ by_53 ⟨by rw [sil_len]; simp only [List.length_singleton]; omega, by rw [sil_len]; simp only [List.length_singleton]; omega⟩ ePt_len ePt_one (fun _ _ _ _ => GR_nil) (fun A3 c3 I3 hO3 => ?_)
      refine GT_ldv rfl rfl rfl rfl rfl (V_assign rfl rfl) (GR_nil) ?_
      refine GT_nil ?_
      refine GE_inBlock ?_
      refine GE_slots (L' := [(0, _), (1, _), (5, _), (6, _)]) ⟨rfl, rfl, rfl, rfl, trivial⟩ ?_
      refine GE_plain (.st 0 (.st 1 (.ld 2 [] .nil))) rfl ?_
      refine GT_st rfl rfl rfl rfl (V_move rfl rfl) ?_
      refine GT_st rfl rfl rfl rfl (V_add rfl rfl rfl (wrap_i64 (by omega))) ?_
      refine GT_ldv rfl rfl rfl rfl rfl (V_assign rfl rfl) (GR_nil) ?_
      refine GT_nil ?_
      exact GE_to (ih (k + 1, (A3, c3, I3)) ⟨by dsimp only; omega, by dsimp only; rw [← sil_succ]; exact hO3⟩ (by dsimp only; omega)) ⟨rfl, rfl, by dsimp only; rw [← sil_succ]; rfl, rfl, trivial⟩ HS.last
    · obtain rfl : k = n := (by omega)
      refine GE_exit rfl ?_
      refine GE_seq ?_
      refine GE_slots (L' := [(5, _)]) ⟨rfl, trivial⟩ ?_
      refine GE_plain (.st 0 (.st 1 .nil)) rfl ?_
      refine GT_st rfl rfl rfl rfl (V_move rfl rfl) ?_
      refine GT_st rfl rfl rfl rfl (V_assign rfl rfl) ?_
      refine GT_nil ?_
      refine GE_ret Tryz.func5 rfl (fun w hw => ?_)
      rw [sil_len] at hO ⊢; exact ⟨y, hO, rfl, hw.hs (C := cx Tryz.prog hm 0 0 _ none' fun _ _ => True) HS.last⟩
  · exact ⟨Nat.zero_le _, Own.nil⟩
end
end Go.Proofs.YtogljfjbilndnaaGreatDoor.Side
/- A track without a signal: its bands and its outermost cut agree, in plain Lean. -/
namespace Go.Proofs.YtogljfjbilndnaaGreatDoor.Side
open Go.Sx Go.Proofs Go.RowKit Lathe

theorem refE_zero {b : Blank} {l : List Pt} {st : List Stp} (he : both b l = 0) (h1 : st.length ≤ 16384) (h2 : provesB b l st = true) : refE b l st = 0 := by unfold refE; rw [if_pos he, if_neg (by omega), if_pos h2]
theorem both_codes {b : Blank} {l : List Pt} (he : both b l = 0) : (outE b l = 0 ∧ refuseE b l = 5) ∨ (outE b l = 15 ∧ refuseE b l = 0) := by
  unfold outE refuseE
  rw [if_pos he, if_pos he]
  cases outer b l <;> simp
/-- what the arguments come to -/
structure LaidIn (x0 x1 x2 x3 x4 x5 x6 h d q O Ci T : Int) (n : Nat) : Prop where
  eh : IntKind.i64.wrap (1 + x0.tmod 1000) = h
  ed : x1.tmod 1001 = d
  eq : IntKind.i64.wrap (1 + x5.tmod 16) = q
  en : IntKind.i64.wrap (1 + x6.tmod 60) = (n : Int)
  eO : IntKind.i64.wrap (1 + x2) = O
  eC : max 0 (O - 1 - x3) = Ci
  eT : x4.tmod 3000 = T
  h1 : 1 ≤ h ∧ h ≤ 1000
  d1 : 0 ≤ d ∧ d ≤ 1000
  q1 : 1 ≤ q ∧ q ≤ 16
  n1 : 1 ≤ n ∧ n ≤ 60
  o1 : 1 ≤ O ∧ O ≤ 65536
  xs : ((0 ≤ x0 ∧ x0 ≤ 65535) ∧ (0 ≤ x1 ∧ x1 ≤ 65535) ∧ (0 ≤ x2 ∧ x2 ≤ 65535) ∧ (0 ≤ x3 ∧ x3 ≤ 65535) ∧ (0 ≤ x4 ∧ x4 ≤ 65535) ∧ (0 ≤ x5 ∧ x5 ≤ 255) ∧ (0 ≤ x6 ∧ x6 ≤ 255))
  c1 : 0 ≤ Ci ∧ Ci ≤ O - 1
  t1 : 0 ≤ T ∧ T ≤ 2999
theorem tmod_bd {x m : Int} (h : 0 ≤ x) (hm : 0 < m) : 0 ≤ x.tmod m ∧ x.tmod m ≤ m - 1 := ⟨Int.tmod_nonneg m h, by have := Int.tmod_lt_of_pos x hm; omega⟩
theorem laid_in {x0 x1 x2 x3 x4 x5 x6 : Int} (h0 : 0 ≤ x0 ∧ x0 ≤ 65535) (h1 : 0 ≤ x1 ∧ x1 ≤ 65535) (h2 : 0 ≤ x2 ∧ x2 ≤ 65535) (h3 : 0 ≤ x3 ∧ x3 ≤ 65535) (h4 : 0 ≤ x4 ∧ x4 ≤ 65535) (h5 : 0 ≤ x5 ∧ x5 ≤ 255) (h6 : 0 ≤ x6 ∧ x6 ≤ 255) :
    ∃ h d q O Ci T n, LaidIn x0 x1 x2 x3 x4 x5 x6 h d q O Ci T n := by
  have b0 := tmod_bd (m := 1000) h0.1 (by decide)
  have b1 := tmod_bd (m := 1001) h1.1 (by decide)
  have b4 := tmod_bd (m := 3000) h4.1 (by decide)
  have b5 := tmod_bd (m := 16) h5.1 (by decide)
  have b6 := tmod_bd (m := 60) h6.1 (by decide)
  exact ⟨1 + x0.tmod 1000, x1.tmod 1001, 1 + x5.tmod 16, 1 + x2, max 0 (1 + x2 - 1 - x3), x4.tmod 3000, (1 + x6.tmod 60).toNat, wrap_i64 (by omega), rfl, wrap_i64 (by omega), (wrap_i64 (by omega)).trans (by omega), wrap_i64 (by omega), rfl, rfl, by omega, by omega, by omega, by omega, by omega, ⟨h0, h1, h2, h3, h4, h5, h6⟩, by omega, by omega⟩
section
variable {x0 x1 x2 x3 x4 x5 x6 h d q O Ci T C : Int} {n : Nat}
abbrev fT (O Ci q T : Int) : Fmt := ⟨⟨#[102]⟩, O, Ci, q, 0, 0, T, 0⟩
abbrev tT (n : Nat) (h d : Int) : Trk := ⟨n, 2 * h + d, 0⟩
theorem LaidIn.fOk (I : LaidIn x0 x1 x2 x3 x4 x5 x6 h d q O Ci T n) : (fT O Ci q T).Ok := by
  have := I.o1; have := I.c1; have := I.q1; have := I.t1
  exact ⟨nm_f, by dsimp only [fT]; omega, by dsimp only [fT]; omega, by dsimp only [fT]; omega, by dsimp only [fT]; omega, by dsimp only [fT]; omega, by dsimp only [fT]; omega, by dsimp only [fT]; omega⟩
theorem LaidIn.tOk (I : LaidIn x0 x1 x2 x3 x4 x5 x6 h d q O Ci T n) : (tT n h d).Ok := by
  have := I.h1; have := I.d1; have := I.n1
  exact ⟨by dsimp only [tT]; omega, by dsimp only [tT]; omega, by dsimp only [tT]; omega⟩
theorem LaidIn.tp (I : LaidIn x0 x1 x2 x3 x4 x5 x6 h d q O Ci T n) (hC : Ci + T + d ≤ O) : TpIn q O (Ci + T + d) d h n := by
  have := I.h1; have := I.d1; have := I.n1; have := I.o1; have := I.c1; have := I.t1
  exact ⟨I.q1, I.h1, I.d1, I.n1, I.o1, ⟨by omega, hC⟩⟩
theorem wid_tpW : wid (fT O Ci q T) (tT n h d) = tpW h d q n := rfl
theorem LaidIn.fits (I : LaidIn x0 x1 x2 x3 x4 x5 x6 h d q O Ci T n) (hC : Ci + T + d ≤ O) : layE (fT O Ci q T) (tT n h d) = 0 ↔ Ci + T + d ≤ tpR O h (2 * h + d) q ((n : Int) - 1) - h := by
  have h1 := tp_last (I.tp hC)
  have h2 := I.c1; have h3 := I.t1
  unfold layE
  rw [wid_tpW]
  dsimp only [fT, tT]
  constructor
  · intro e
    split at e
    · cases e
    · split at e
      · cases e
      · omega
  · intro e
    rw [if_neg (by omega), if_neg (by omega)]
theorem LaidIn.right (I : LaidIn x0 x1 x2 x3 x4 x5 x6 h d q O Ci T n) (hC : Ci + T + d ≤ O) (he : layE (fT O Ci q T) (tT n h d) = 0) : outE (tpB q O (Ci + T + d) d) (silL h n) = 0 ∧ outR (tpB q O (Ci + T + d) d) (silL h n) = tpL O h (2 * h + d) q n := by
  have h1 := tp_outer (I.tp hC) ((I.fits hC).1 he)
  have h2 := (I.tp hC).both
  unfold outE outR
  rw [if_pos h2, if_pos h2, h1]
  exact ⟨rfl, rfl⟩
theorem LaidIn.wrong (I : LaidIn x0 x1 x2 x3 x4 x5 x6 h d q O Ci T n) (hC : Ci + T + d ≤ O) (he : layE (fT O Ci q T) (tT n h d) ≠ 0) : outE (tpB q O (Ci + T + d) d) (silL h n) = 15 ∧ outR (tpB q O (Ci + T + d) d) (silL h n) = [] ∧ refuseE (tpB q O (Ci + T + d) d) (silL h n) = 0 := by
  have h1 := tp_none (I.tp hC) (fun e => he ((I.fits hC).2 e))
  have h2 := (I.tp hC).both
  unfold outE outR refuseE
  rw [if_pos h2, if_pos h2, if_pos h2, h1]
  exact ⟨rfl, rfl, rfl⟩
theorem layE_cases {f : Fmt} {t : Trk} : (layE f t = 0 ∧ layN f t = 1 ∧ layB f t = [bnd1 f t]) ∨ (layE f t = 14 ∧ layN f t = 1 ∧ layB f t = []) ∨ (layE f t = 20 ∧ layN f t = 0 ∧ layB f t = []) := by
  unfold layB layN
  by_cases h1 : f.outer - f.lead - wid f t < t.least
  · have e : layE f t = 20 := if_pos h1
    rw [e, if_pos h1]; exact .inr (.inr ⟨rfl, rfl, rfl⟩)
  · by_cases h2 : f.outer - f.lead - wid f t - f.tail < f.inner
    · have e : layE f t = 14 := (if_neg h1).trans (if_pos h2)
      rw [e, if_neg h1]; exact .inr (.inl ⟨rfl, rfl, rfl⟩)
    · have e : layE f t = 0 := (if_neg h1).trans (if_neg h2)
      rw [e, if_neg h1]; exact .inl ⟨rfl, rfl, rfl⟩
end
section
variable {w : World} {A A2 : Option Addr} {c c2 n : Nat} {f : Fmt} {t : Trk} {b : Blank} {h E N : Int} {r : List Int} {bs : List Bnd}
theorem C_LayV (hf : f.Ok) (ht : t.Ok) (h : RdL w 3 eTrk A [t]) (ho : RdL w 1 eN A2 [0]) (e1 : layE f t = E) (e2 : layN f t = N) (e3 : layB f t = bs) :
    Con Tryz.prog 6 [f.val, .slice A 1 c, .slice A2 1 c2] w (fun y : Option Addr × Nat × Items => Own 3 50 eBnd bs (.slice y.1 bs.length y.2.1) y.2.2) (fun y => .tuple #[.slice y.1 bs.length y.2.1, I N, I E]) (fun y => y.2.2) := by
  subst e1; subst e2; subst e3; exact C_Lay hf ht h ho
variable {x0 x1 x2 x3 x4 x5 x6 d q O Ci T C : Int}
set_option maxRecDepth 20000 in
theorem C_LayT1 (Z : LaidIn x0 x1 x2 x3 x4 x5 x6 h d q O Ci T n) (he : layE (fT O Ci q T) (tT n h d) = 0) (eN' : layN (fT O Ci q T) (tT n h d) = 1) (eB : layB (fT O Ci q T) (tT n h d) = [bnd1 (fT O Ci q T) (tT n h d)])
    (h1 : RdL w 3 eTrk A [tT n h d]) (h2 : RdL w 1 eN A2 [0]) :
    Con Tryz.prog 6 [.agg #[.string ⟨#[102]⟩, I O, I Ci, I q, I 0, I 0, I T, I 0], .slice A 1 c, .slice A2 1 c2] w (fun y : Option Addr × Nat × Items => Own 3 50 eBnd [⟨0, O, O - wid (fT O Ci q T) (tT n h d)⟩] (.slice y.1 1 y.2.1) y.2.2) (fun y => .tuple #[.slice y.1 1 y.2.1, I 1, I 0]) (fun y => y.2.2) := by
  have e : bnd1 (fT O Ci q T) (tT n h d) = ⟨0, O, O - wid (fT O Ci q T) (tT n h d)⟩ := by
    unfold bnd1; dsimp only [fT]; rw [show O - 0 = O by omega]
  rw [e] at eB
  have h3 := C_LayV (c := c) (c2 := c2) Z.fOk Z.tOk h1 h2 he eN' eB
  exact h3
set_option maxRecDepth 20000 in
theorem C_LayT0 (Z : LaidIn x0 x1 x2 x3 x4 x5 x6 h d q O Ci T n) (he : layE (fT O Ci q T) (tT n h d) = E) (eN' : layN (fT O Ci q T) (tT n h d) = N) (eB : layB (fT O Ci q T) (tT n h d) = [])
    (h1 : RdL w 3 eTrk A [tT n h d]) (h2 : RdL w 1 eN A2 [0]) :
    Con Tryz.prog 6 [.agg #[.string ⟨#[102]⟩, I O, I Ci, I q, I 0, I 0, I T, I 0], .slice A 1 c, .slice A2 1 c2] w (fun y : Option Addr × Nat × Items => Own 3 50 eBnd [] (.slice y.1 0 y.2.1) y.2.2) (fun y => .tuple #[.slice y.1 0 y.2.1, I N, I E]) (fun y => y.2.2) := by
  have h3 := C_LayV (c := c) (c2 := c2) Z.fOk Z.tOk h1 h2 he eN' eB
  exact h3
set_option maxRecDepth 20000 in
theorem C_WidthT (Z : LaidIn x0 x1 x2 x3 x4 x5 x6 h d q O Ci T n) : Con0 Tryz.prog 8 [.agg #[.string ⟨#[102]⟩, I O, I Ci, I q, I 0, I 0, I T, I 0], .agg #[I n, I (2 * h + d), I 0]] w (.tuple #[I (wid (fT O Ci q T) (tT n h d)), I 0]) := by
  have h1 := C_Width (w := w) Z.fOk Z.tOk
  exact h1
set_option maxRecDepth 20000 in
theorem C_CrowdT (Z : LaidIn x0 x1 x2 x3 x4 x5 x6 h d q O Ci T n) (he : layE (fT O Ci q T) (tT n h d) ≠ 0) (h1 : RdL w 3 eTrk A [tT n h d]) :
    Con Tryz.prog 9 [.agg #[.string ⟨#[102]⟩, I O, I Ci, I q, I 0, I 0, I T, I 0], .slice A 1 c] w (fun y : Option Addr × Nat × Items => Own 1 3 eN [0] (.slice y.1 1 y.2.1) y.2.2) (fun y => .tuple #[.slice y.1 1 1, I 0]) (fun y => y.2.2) := by
  have h2 := C_Crowd (c := c) Z.fOk Z.tOk h1 he
  exact h2
set_option maxRecDepth 20000 in
theorem C_OutT (hp : RdL w 2 ePt A (silL h n)) (e1 : outE (tpB q O C d) (silL h n) = E) (e2 : outR (tpB q O C d) (silL h n) = r) :
    Con Tryz.prog 7 [.agg #[I q, I O, I C, I d, I 0, I 65536], .slice A n c] w (fun y : Option Addr × Nat × Items => Own 1 2 eI r (.slice y.1 r.length y.2.1) y.2.2) (fun y => .tuple #[.slice y.1 r.length y.2.1, I E]) (fun y => y.2.2) := by
  have h1 := C_lathe_Outermost (b := tpB q O C d) (c := c) hp
  rw [sil_len, e1, e2] at h1
  exact h1
set_option maxRecDepth 20000 in
theorem C_OutT1 (hp : RdL w 2 ePt A (silL h n)) (e1 : outE (tpB q O C d) (silL h n) = 0) (e2 : outR (tpB q O C d) (silL h n) = tpL O h (2 * h + d) q n) :
    Con Tryz.prog 7 [.agg #[I q, I O, I C, I d, I 0, I 65536], .slice A n c] w (fun y : Option Addr × Nat × Items => Own 1 2 eI (tpL O h (2 * h + d) q n) (.slice y.1 n y.2.1) y.2.2) (fun y => .tuple #[.slice y.1 n y.2.1, I 0]) (fun y => y.2.2) := by
  have h1 := C_OutT (c := c) hp e1 e2
  rw [tpL_len] at h1
  exact h1
set_option maxRecDepth 20000 in
theorem C_RefuseT (hp : RdL w 2 ePt A (silL h n)) (e : both (tpB q O C d) (silL h n) = 0) (e1 : refuseE (tpB q O C d) (silL h n) = 0) :
    Con Tryz.prog 10 [.agg #[I q, I O, I C, I d, I 0, I 65536], .slice A n c] w (fun y : List Stp × Option Addr × Nat × Items => Own 2 70 eStp y.1 (.slice y.2.1 y.1.length y.2.2.1) y.2.2.2 ∧ y.1.length ≤ 16384 ∧ refE (tpB q O C d) (silL h n) y.1 = 0)
      (fun y => .tuple #[.slice y.2.1 y.1.length y.2.2.1, I 0]) (fun y => y.2.2.2) := by
  have h1 := C_lathe_Refuse (b := tpB q O C d) (c := c) hp
  rw [sil_len, e1] at h1
  refine h1.mono fun v w' ⟨y, ⟨hO, h2, _⟩, hv, m⟩ => ?_
  obtain ⟨h3, _, rad, hS⟩ := h2 rfl
  have hF := search_found e hS h3
  exact ⟨y, ⟨hO, hF.len, refE_zero e hF.len hF.right⟩, hv, m⟩
set_option maxRecDepth 20000 in
theorem C_CheckRefusalT {st : List Stp} (hp : RdL w 2 ePt A (silL h n)) (hs : RdL w 2 eStp A2 st) (hls : st.length ≤ 16384) (e : refE (tpB q O C d) (silL h n) st = 0) :
    Con0 Tryz.prog 11 [.agg #[I q, I O, I C, I d, I 0, I 65536], .slice A n c, .slice A2 st.length c2] w (I 0) := by
  have h1 := C_lathe_CheckRefusal (b := tpB q O C d) (c := c) (c2 := c2) hp hs (by omega)
  rw [sil_len, e] at h1
  exact h1
end
end Go.Proofs.YtogljfjbilndnaaGreatDoor.Side
/- TopLaid, walked. -/
namespace Go.Proofs.YtogljfjbilndnaaGreatDoor.Side
open Go.Sx Go.Proofs Go.RowKit Lathe

section
variable {w : World} {x0 x1 x2 x3 x4 x5 x6 h d q O Ci T : Int} {n : Nat}
set_option maxRecDepth 20000 in
theorem C_TopLaid0 (Z : LaidIn x0 x1 x2 x3 x4 x5 x6 h d q O Ci T n) (hC : ¬ Ci + T + d ≤ O) : Con0 Tryz.prog 3 [.int .u16 x0, .int .u16 x1, .int .u16 x2, .int .u16 x3, .int .u16 x4, .int .u8 x5, .int .u8 x6] w (.bool true) := by
  have b_h := Z.h1
  have b_d := Z.d1
  have b_q := Z.q1
  have b_n := Z.n1
  have b_o := Z.o1
  have b_3 := Z.xs
  have b_c := Z.c1
  have b_t := Z.t1
  refine Ret_of (vs := [_, _, _, _, _, _, _]) hm none' Tryz.func3 rfl Tryz.ntmps3 rfl ?_
  dsimp only [slotsOf]
  refine GE_seq ?_
  refine GE_plain (.st 0 .nil) rfl ?_
  refine GT_st rfl rfl rfl rfl (V_assign rfl rfl) ?_
  refine GT_nil ?_
  refine GE_seq ?_
  refine GE_plain (.st 0 (.st 1 (.st 2 (.st 3 (.st 4 (.st 5 (.st 6 (.st 7 (.st 8 .nil))))))))) rfl ?_
  refine GT_st rfl rfl rfl rfl (V_move rfl rfl) ?_
  refine GT_st rfl rfl rfl rfl (V_convII rfl rfl (by rw [Tryz.underlying22]; rfl) Tryz.underlying2 (wrap_i64 (by omega))) ?_
  refine GT_st rfl rfl rfl rfl (V_rem rfl rfl rfl (by omega)) ?_
  refine GT_st rfl rfl rfl rfl (V_add rfl rfl rfl (Z.eh)) ?_
  refine GT_st rfl rfl rfl rfl (V_move rfl rfl) ?_
  refine GT_st rfl rfl rfl rfl (V_convII rfl rfl (by rw [Tryz.underlying22]; rfl) Tryz.underlying2 (wrap_i64 (by omega))) ?_
  refine GT_st rfl rfl rfl rfl (opv_eq (v' := I d) (V_rem rfl rfl rfl (by omega)) (congrArg (Value.int .i64) Z.ed)) ?_
  refine GT_st rfl rfl rfl rfl (V_assign rfl rfl) ?_
  refine GT_st rfl rfl rfl rfl (V_assign rfl rfl) ?_
  refine GT_nil ?_
  refine GE_seq ?_
  refine GE_slots (L' := [(2, _), (3, _), (4, _), (5, _), (6, _), (15, _), (16, _)]) ⟨rfl, rfl, rfl, rfl, rfl, rfl, rfl, trivial⟩ ?_
  refine GE_plain (.st 0 (.st 1 (.st 2 (.st 3 (.st 4 (.st 5 (.st 6 (.st 7 (.st 8 (.st 9 .nil)))))))))) rfl ?_
  refine GT_st rfl rfl rfl rfl (V_move rfl rfl) ?_
  refine GT_st rfl rfl rfl rfl (V_convII rfl rfl (by rw [Tryz.underlying5]; rfl) Tryz.underlying2 (wrap_i64 (by omega))) ?_
  refine GT_st rfl rfl rfl rfl (V_rem rfl rfl rfl (by omega)) ?_
  refine GT_st rfl rfl rfl rfl (V_add rfl rfl rfl (Z.eq)) ?_
  refine GT_st rfl rfl rfl rfl (V_move rfl rfl) ?_
  refine GT_st rfl rfl rfl rfl (V_convII rfl rfl (by rw [Tryz.underlying5]; rfl) Tryz.underlying3 (wrap_i64 (by omega))) ?_
  refine GT_st rfl rfl rfl rfl (V_rem rfl rfl rfl (by omega)) ?_
  refine GT_st rfl rfl rfl rfl (V_add rfl rfl rfl (Z.en)) ?_
  refine GT_st rfl rfl rfl rfl (V_assign rfl rfl) ?_
  refine GT_st rfl rfl rfl rfl (V_assign rfl rfl) ?_
  refine GT_nil ?_
  refine GE_seq ?_
  refine GE_slots (L' := [(2, _), (3, _), (4, _), (15, _), (16, _), (17, _), (18, _)]) ⟨rfl, rfl, rfl, rfl, rfl, rfl, rfl, trivial⟩ ?_
  refine GE_plain (.st 0 (.st 1 (.st 2 (.st 3 (.st 4 (.st 5 (.st 6 (.st 7 (.ld 8 [] (.ld 9 [] .nil)))))))))) rfl ?_
  refine GT_st rfl rfl rfl rfl (V_move rfl rfl) ?_
  refine GT_st rfl rfl rfl rfl (V_convII rfl rfl (by rw [Tryz.underlying22]; rfl) Tryz.underlying2 (wrap_i64 (by omega))) ?_
  refine GT_st rfl rfl rfl rfl (V_add rfl rfl rfl (Z.eO)) ?_
  refine GT_st rfl rfl rfl rfl (V_move rfl rfl) ?_
  refine GT_st rfl rfl rfl rfl (V_move rfl rfl) ?_
  refine GT_st rfl rfl rfl rfl (V_convII rfl rfl (by rw [Tryz.underlying22]; rfl) Tryz.underlying2 (wrap_i64 (by omega))) ?_
  refine GT_st rfl rfl rfl rfl (opv_eq (v' := I T) (V_rem rfl rfl rfl (by omega)) (congrArg (Value.int .i64) Z.eT)) ?_
  refine GT_st rfl rfl rfl rfl (V_build (vs := [_, _, _, _, _, _, _, _]) rfl rfl zc_24 pl_24 sa_24 rfl) ?_
  refine GT_alloc rfl rfl rfl rfl rfl zc_24 (fun _ => GR_nil) (fun b19 => ?_)
  refine GT_store (vs := [_, _, _, _, _, _, _, _]) (l' := [_, _, _, _, _, _, _, _]) rfl rfl rfl rfl rfl rfl rfl sz_24 rfl rfl (Nat.le_of_ble_eq_true rfl) rfl (GR_nil) ?_
  refine GT_nil ?_
  refine GE_seq ?_
  refine GE_slots (L' := [(3, _), (15, _), (16, _), (17, _), (18, _), (19, _)]) ⟨rfl, rfl, rfl, rfl, rfl, rfl, trivial⟩ ?_
  refine GE_plain (.st 0 (.st 1 (.st 2 (.st 3 (.st 4 (.st 5 (.st 6 (.st 7 (.ld 8 [] .nil))))))))) rfl ?_
  first | refine GT_st rfl rfl rfl rfl (V_field rfl rfl fo_24_1) ?_ | refine GT_st rfl rfl rfl rfl (V_fieldA rfl rfl fo_24_1) ?_
  refine GT_st rfl rfl rfl rfl (V_load rfl rfl ag_2 (CellAt.item rfl)) ?_
  refine GT_st rfl rfl rfl rfl (V_sub rfl rfl rfl ((wrap_i64 (by omega)))) ?_
  refine GT_st rfl rfl rfl rfl (V_move rfl rfl) ?_
  refine GT_st rfl rfl rfl rfl (V_convII rfl rfl (by rw [Tryz.underlying22]; rfl) Tryz.underlying2 (wrap_i64 (by omega))) ?_
  refine GT_st rfl rfl rfl rfl (V_sub rfl rfl rfl ((wrap_i64 (by omega)))) ?_
  refine GT_st rfl rfl rfl rfl (opv_eq (v' := I Ci) (V_max rfl rfl rfl) (congrArg (Value.int .i64) Z.eC)) ?_
  first | refine GT_st rfl rfl rfl rfl (V_field rfl rfl fo_24_2) ?_ | refine GT_st rfl rfl rfl rfl (V_fieldA rfl rfl fo_24_2) ?_
  refine GT_store (vs := [_]) (l' := [_, _, _, _, _, _, _, _]) rfl rfl rfl rfl rfl rfl rfl sz_2 rfl rfl (Nat.le_of_ble_eq_true rfl) rfl (GR_nil) ?_
  refine GT_nil ?_
  refine GE_seq ?_
  refine GE_slots (L' := [(15, _), (16, _), (17, _), (18, _), (19, _)]) ⟨rfl, rfl, rfl, rfl, rfl, trivial⟩ ?_
  refine GE_plain (.st 0 (.st 1 (.st 2 (.st 3 (.st 4 (.st 5 (.ld 6 [] (.ld 7 [] .nil)))))))) rfl ?_
  refine GT_st rfl rfl rfl rfl (V_move rfl rfl) ?_
  refine GT_st rfl rfl rfl rfl (V_move rfl rfl) ?_
  refine GT_st rfl rfl rfl rfl (V_mul rfl rfl rfl ((wrap_i64 (by omega)))) ?_
  refine GT_st rfl rfl rfl rfl (V_move rfl rfl) ?_
  refine GT_st rfl rfl rfl rfl (V_add rfl rfl rfl ((wrap_i64 (by omega)))) ?_
  refine GT_st rfl rfl rfl rfl (V_build (vs := [_, _, _]) rfl rfl zc_26 pl_26 sa_26 rfl) ?_
  refine GT_alloc rfl rfl rfl rfl rfl zc_26 (fun _ => GR_nil) (fun b20 => ?_)
  refine GT_store (vs := [_, _, _]) (l' := [_, _, _]) rfl rfl rfl rfl rfl rfl rfl sz_26 rfl rfl (Nat.le_of_ble_eq_true rfl) rfl (GR_nil) ?_
  refine GT_nil ?_
  refine GE_seq ?_
  refine GE_slots (L' := [(15, _), (16, _), (17, _), (18, _), (19, _), (20, _)]) ⟨rfl, rfl, rfl, rfl, rfl, rfl, trivial⟩ ?_
  refine GE_plain (.st 0 (.st 1 (.st 2 (.st 3 (.st 4 (.st 5 (.st 6 (.st 7 (.st 8 (.st 9 (.st 10 (.st 11 (.ld 12 [] (.ld 13 [] .nil)))))))))))))) rfl ?_
  refine GT_st rfl rfl rfl rfl (V_move rfl rfl) ?_
  first | refine GT_st rfl rfl rfl rfl (V_field rfl rfl fo_24_1) ?_ | refine GT_st rfl rfl rfl rfl (V_fieldA rfl rfl fo_24_1) ?_
  refine GT_st rfl rfl rfl rfl (V_load rfl rfl ag_2 (CellAt.item rfl)) ?_
  first | refine GT_st rfl rfl rfl rfl (V_field rfl rfl fo_24_2) ?_ | refine GT_st rfl rfl rfl rfl (V_fieldA rfl rfl fo_24_2) ?_
  refine GT_st rfl rfl rfl rfl (V_load rfl rfl ag_2 (CellAt.item rfl)) ?_
  first | refine GT_st rfl rfl rfl rfl (V_field rfl rfl fo_24_6) ?_ | refine GT_st rfl rfl rfl rfl (V_fieldA rfl rfl fo_24_6) ?_
  refine GT_st rfl rfl rfl rfl (V_load rfl rfl ag_2 (CellAt.item rfl)) ?_
  refine GT_st rfl rfl rfl rfl (V_add rfl rfl rfl ((wrap_i64 (by omega)))) ?_
  refine GT_st rfl rfl rfl rfl (V_move rfl rfl) ?_
  refine GT_st rfl rfl rfl rfl (V_add rfl rfl rfl ((wrap_i64 (by omega)))) ?_
  refine GT_st rfl rfl rfl rfl (V_move rfl rfl) ?_
  refine GT_st rfl rfl rfl rfl (V_build (vs := [_, _, _, _, _, _]) rfl rfl zc_28 pl_28 sa_28 rfl) ?_
  refine GT_alloc rfl rfl rfl rfl rfl zc_28 (fun _ => GR_nil) (fun b21 => ?_)
  refine GT_store (vs := [_, _, _, _, _, _]) (l' := [_, _, _, _, _, _]) rfl rfl rfl rfl rfl rfl rfl sz_28 rfl rfl (Nat.le_of_ble_eq_true rfl) rfl (GR_nil) ?_
  refine GT_nil ?_
  refine GE_seq ?_
  refine GE_seq ?_
  refine GE_slots (L' := [(15, _), (16, _), (18, _), (19, _), (20, _), (21, _)]) ⟨rfl, rfl, rfl, rfl, rfl, rfl, trivial⟩ ?_
  refine GE_plain (.st 0 (.st 1 (.st 2 (.st 3 (.st 4 .nil))))) rfl ?_
  first | refine GT_st rfl rfl rfl rfl (V_field rfl rfl fo_28_2) ?_ | refine GT_st rfl rfl rfl rfl (V_fieldA rfl rfl fo_28_2) ?_
  refine GT_st rfl rfl rfl rfl (V_load rfl rfl ag_2 (CellAt.item rfl)) ?_
  first | refine GT_st rfl rfl rfl rfl (V_field rfl rfl fo_28_1) ?_ | refine GT_st rfl rfl rfl rfl (V_fieldA rfl rfl fo_28_1) ?_
  refine GT_st rfl rfl rfl rfl (V_load rfl rfl ag_2 (CellAt.item rfl)) ?_
  refine GT_st rfl rfl rfl rfl (V_isT (V_gtr rfl rfl rfl) (by omega)) ?_
  refine GT_nil ?_
  refine GE_cond_t rfl ?_
  refine GE_seq ?_
  refine GE_slots (L' := []) trivial ?_
  refine GE_plain (.ld 0 [] (.st 1 .nil)) rfl ?_
  refine GT_call0 rfl rfl rfl rfl rfl rfl rfl rfl rn_4 (fun w hw => C_works05) (GR_nil) ?_
  refine GT_st rfl rfl rfl rfl (V_assign rfl rfl) ?_
  refine GT_nil ?_
  refine GE_ret Tryz.func3 rfl (fun w hw => ⟨?_, hw.nil⟩)
  rfl
set_option maxRecDepth 20000 in
theorem C_TopLaid1 (Z : LaidIn x0 x1 x2 x3 x4 x5 x6 h d q O Ci T n) (hC : Ci + T + d ≤ O) (he : layE (fT O Ci q T) (tT n h d) = 0) (eN' : layN (fT O Ci q T) (tT n h d) = 1) (eB : layB (fT O Ci q T) (tT n h d) = [bnd1 (fT O Ci q T) (tT n h d)]) : Con0 Tryz.prog 3 [.int .u16 x0, .int .u16 x1, .int .u16 x2, .int .u16 x3, .int .u16 x4, .int .u8 x5, .int .u8 x6] w (.bool true) := by
  have b_h := Z.h1
  have b_d := Z.d1
  have b_q := Z.q1
  have b_n := Z.n1
  have b_o := Z.o1
  have b_3 := Z.xs
  have b_c := Z.c1
  have b_t := Z.t1
  have hf := Z.fOk
  have ht := Z.tOk
  have hb := (Z.tp hC).both
  have I0 := Z.right hC he
  have e0 : tpR O h (2 * h + d) q ((0 : Nat) : Int) = O - h := by unfold tpR; rw [show ((0 : Nat) : Int) = 0 from rfl, Int.zero_ediv, Int.mul_zero]; omega
  have e9 := tp_last (Z.tp hC)
  have e8 : ((n - 1 : Nat) : Int) = (n : Int) - 1 := by omega
  rw [← e8, ← wid_tpW (O := O) (Ci := Ci) (T := T)] at e9
  obtain ⟨_, _, hw1, hw2⟩ := wid_bd hf ht
  refine Ret_of (vs := [_, _, _, _, _, _, _]) hm none' Tryz.func3 rfl Tryz.ntmps3 rfl ?_
  dsimp only [slotsOf]
  refine GE_seq ?_
  refine GE_plain (.st 0 .nil) rfl ?_
  refine GT_st rfl rfl rfl rfl (V_assign rfl rfl) ?_
  refine GT_nil ?_
  refine GE_seq ?_
  refine GE_plain (.st 0 (.st 1 (.st 2 (.st 3 (.st 4 (.st 5 (.st 6 (.st 7 (.st 8 .nil))))))))) rfl ?_
  refine GT_st rfl rfl rfl rfl (V_move rfl rfl) ?_
  refine GT_st rfl rfl rfl rfl (V_convII rfl rfl (by rw [Tryz.underlying22]; rfl) Tryz.underlying2 (wrap_i64 (by omega))) ?_
  refine GT_st rfl rfl rfl rfl (V_rem rfl rfl rfl (by omega)) ?_
  refine GT_st rfl rfl rfl rfl (V_add rfl rfl rfl (Z.eh)) ?_
  refine GT_st rfl rfl rfl rfl (V_move rfl rfl) ?_
  refine GT_st rfl rfl rfl rfl (V_convII rfl rfl (by rw [Tryz.underlying22]; rfl) Tryz.underlying2 (wrap_i64 (by omega))) ?_
  refine GT_st rfl rfl rfl rfl (opv_eq (v' := I d) (V_rem rfl rfl rfl (by omega)) (congrArg (Value.int .i64) Z.ed)) ?_
  refine GT_st rfl rfl rfl rfl (V_assign rfl rfl) ?_
  refine GT_st rfl rfl rfl rfl (V_assign rfl rfl) ?_
  refine GT_nil ?_
  refine GE_seq ?_
  refine GE_slots (L' := [(2, _), (3, _), (4, _), (5, _), (6, _), (15, _), (16, _)]) ⟨rfl, rfl, rfl, rfl, rfl, rfl, rfl, trivial⟩ ?_
  refine GE_plain (.st 0 (.st 1 (.st 2 (.st 3 (.st 4 (.st 5 (.st 6 (.st 7 (.st 8 (.st 9 .nil)))))))))) rfl ?_
  refine GT_st rfl rfl rfl rfl (V_move rfl rfl) ?_
  refine GT_st rfl rfl rfl rfl (V_convII rfl rfl (by rw [Tryz.underlying5]; rfl) Tryz.underlying2 (wrap_i64 (by omega))) ?_
  refine GT_st rfl rfl rfl rfl (V_rem rfl rfl rfl (by omega)) ?_
  refine GT_st rfl rfl rfl rfl (V_add rfl rfl rfl (Z.eq)) ?_
  refine GT_st rfl rfl rfl rfl (V_move rfl rfl) ?_
  refine GT_st rfl rfl rfl rfl (V_convII rfl rfl (by rw [Tryz.underlying5]; rfl) Tryz.underlying3 (wrap_i64 (by omega))) ?_
  refine GT_st rfl rfl rfl rfl (V_rem rfl rfl rfl (by omega)) ?_
  refine GT_st rfl rfl rfl rfl (V_add rfl rfl rfl (Z.en)) ?_
  refine GT_st rfl rfl rfl rfl (V_assign rfl rfl) ?_
  refine GT_st rfl rfl rfl rfl (V_assign rfl rfl) ?_
  refine GT_nil ?_
  refine GE_seq ?_
  refine GE_slots (L' := [(2, _), (3, _), (4, _), (15, _), (16, _), (17, _), (18, _)]) ⟨rfl, rfl, rfl, rfl, rfl, rfl, rfl, trivial⟩ ?_
  refine GE_plain (.st 0 (.st 1 (.st 2 (.st 3 (.st 4 (.st 5 (.st 6 (.st 7 (.ld 8 [] (.ld 9 [] .nil)))))))))) rfl ?_
  refine GT_st rfl rfl rfl rfl (V_move rfl rfl) ?_
  refine GT_st rfl rfl rfl rfl (V_convII rfl rfl (by rw [Tryz.underlying22]; rfl) Tryz.underlying2 (wrap_i64 (by omega))) ?_
  refine GT_st rfl rfl rfl rfl (V_add rfl rfl rfl (Z.eO)) ?_
  refine GT_st rfl rfl rfl rfl (V_move rfl rfl) ?_
  refine GT_st rfl rfl rfl rfl (V_move rfl rfl) ?_
  refine GT_st rfl rfl rfl rfl (V_convII rfl rfl (by rw [Tryz.underlying22]; rfl) Tryz.underlying2 (wrap_i64 (by omega))) ?_
  refine GT_st rfl rfl rfl rfl (opv_eq (v' := I T) (V_rem rfl rfl rfl (by omega)) (congrArg (Value.int .i64) Z.eT)) ?_
  refine GT_st rfl rfl rfl rfl (V_build (vs := [_, _, _, _, _, _, _, _]) rfl rfl zc_24 pl_24 sa_24 rfl) ?_
  refine GT_alloc rfl rfl rfl rfl rfl zc_24 (fun _ => GR_nil) (fun b19 => ?_)
  refine GT_store (vs := [_, _, _, _, _, _, _, _]) (l' := [_, _, _, _, _, _, _, _]) rfl rfl rfl rfl rfl rfl rfl sz_24 rfl rfl (Nat.le_of_ble_eq_true rfl) rfl (GR_nil) ?_
  refine GT_nil ?_
  refine GE_seq ?_
  refine GE_slots (L' := [(3, _), (15, _), (16, _), (17, _), (18, _), (19, _)]) ⟨rfl, rfl, rfl, rfl, rfl, rfl, trivial⟩ ?_
  refine GE_plain (.st 0 (.st 1 (.st 2 (.st 3 (.st 4 (.st 5 (.st 6 (.st 7 (.ld 8 [] .nil))))))))) rfl ?_
  first | refine GT_st rfl rfl rfl rfl (V_field rfl rfl fo_24_1) ?_ | refine GT_st rfl rfl rfl rfl (V_fieldA rfl rfl fo_24_1) ?_
  refine GT_st rfl rfl rfl rfl (V_load rfl rfl ag_2 (CellAt.item rfl)) ?_
  refine GT_st rfl rfl rfl rfl (V_sub rfl rfl rfl ((wrap_i64 (by omega)))) ?_
  refine GT_st rfl rfl rfl rfl (V_move rfl rfl) ?_
  refine GT_st rfl rfl rfl rfl (V_convII rfl rfl (by rw [Tryz.underlying22]; rfl) Tryz.underlying2 (wrap_i64 (by omega))) ?_
  refine GT_st rfl rfl rfl rfl (V_sub rfl rfl rfl ((wrap_i64 (by omega)))) ?_
  refine GT_st rfl rfl rfl rfl (opv_eq (v' := I Ci) (V_max rfl rfl rfl) (congrArg (Value.int .i64) Z.eC)) ?_
  first | refine GT_st rfl rfl rfl rfl (V_field rfl rfl fo_24_2) ?_ | refine GT_st rfl rfl rfl rfl (V_fieldA rfl rfl fo_24_2) ?_
  refine GT_store (vs := [_]) (l' := [_, _, _, _, _, _, _, _]) rfl rfl rfl rfl rfl rfl rfl sz_2 rfl rfl (Nat.le_of_ble_eq_true rfl) rfl (GR_nil) ?_
  refine GT_nil ?_
  refine GE_seq ?_
  refine GE_slots (L' := [(15, _), (16, _), (17, _), (18, _), (19, _)]) ⟨rfl, rfl, rfl, rfl, rfl, trivial⟩ ?_
  refine GE_plain (.st 0 (.st 1 (.st 2 (.st 3 (.st 4 (.st 5 (.ld 6 [] (.ld 7 [] .nil)))))))) rfl ?_
  refine GT_st rfl rfl rfl rfl (V_move rfl rfl) ?_
  refine GT_st rfl rfl rfl rfl (V_move rfl rfl) ?_
  refine GT_st rfl rfl rfl rfl (V_mul rfl rfl rfl ((wrap_i64 (by omega)))) ?_
  refine GT_st rfl rfl rfl rfl (V_move rfl rfl) ?_
  refine GT_st rfl rfl rfl rfl (V_add rfl rfl rfl ((wrap_i64 (by omega)))) ?_
  refine GT_st rfl rfl rfl rfl (V_build (vs := [_, _, _]) rfl rfl zc_26 pl_26 sa_26 rfl) ?_
  refine GT_alloc rfl rfl rfl rfl rfl zc_26 (fun _ => GR_nil) (fun b20 => ?_)
  refine GT_store (vs := [_, _, _]) (l' := [_, _, _]) rfl rfl rfl rfl rfl rfl rfl sz_26 rfl rfl (Nat.le_of_ble_eq_true rfl) rfl (GR_nil) ?_
  refine GT_nil ?_
  refine GE_seq ?_
  refine GE_slots (L' := [(15, _), (16, _), (17, _), (18, _), (19, _), (20, _)]) ⟨rfl, rfl, rfl, rfl, rfl, rfl, trivial⟩ ?_
  refine GE_plain (.st 0 (.st 1 (.st 2 (.st 3 (.st 4 (.st 5 (.st 6 (.st 7 (.st 8 (.st 9 (.st 10 (.st 11 (.ld 12 [] (.ld 13 [] .nil)))))))))))))) rfl ?_
  refine GT_st rfl rfl rfl rfl (V_move rfl rfl) ?_
  first | refine GT_st rfl rfl rfl rfl (V_field rfl rfl fo_24_1) ?_ | refine GT_st rfl rfl rfl rfl (V_fieldA rfl rfl fo_24_1) ?_
  refine GT_st rfl rfl rfl rfl (V_load rfl rfl ag_2 (CellAt.item rfl)) ?_
  first | refine GT_st rfl rfl rfl rfl (V_field rfl rfl fo_24_2) ?_ | refine GT_st rfl rfl rfl rfl (V_fieldA rfl rfl fo_24_2) ?_
  refine GT_st rfl rfl rfl rfl (V_load rfl rfl ag_2 (CellAt.item rfl)) ?_
  first | refine GT_st rfl rfl rfl rfl (V_field rfl rfl fo_24_6) ?_ | refine GT_st rfl rfl rfl rfl (V_fieldA rfl rfl fo_24_6) ?_
  refine GT_st rfl rfl rfl rfl (V_load rfl rfl ag_2 (CellAt.item rfl)) ?_
  refine GT_st rfl rfl rfl rfl (V_add rfl rfl rfl ((wrap_i64 (by omega)))) ?_
  refine GT_st rfl rfl rfl rfl (V_move rfl rfl) ?_
  refine GT_st rfl rfl rfl rfl (V_add rfl rfl rfl ((wrap_i64 (by omega)))) ?_
  refine GT_st rfl rfl rfl rfl (V_move rfl rfl) ?_
  refine GT_st rfl rfl rfl rfl (V_build (vs := [_, _, _, _, _, _]) rfl rfl zc_28 pl_28 sa_28 rfl) ?_
  refine GT_alloc rfl rfl rfl rfl rfl zc_28 (fun _ => GR_nil) (fun b21 => ?_)
  refine GT_store (vs := [_, _, _, _, _, _]) (l' := [_, _, _, _, _, _]) rfl rfl rfl rfl rfl rfl rfl sz_28 rfl rfl (Nat.le_of_ble_eq_true rfl) rfl (GR_nil) ?_
  refine GT_nil ?_
  refine GE_seq ?_
  refine GE_seq ?_
  refine GE_slots (L' := [(15, _), (16, _), (18, _), (19, _), (20, _), (21, _)]) ⟨rfl, rfl, rfl, rfl, rfl, rfl, trivial⟩ ?_
  refine GE_plain (.st 0 (.st 1 (.st 2 (.st 3 (.st 4 .nil))))) rfl ?_
  first | refine GT_st rfl rfl rfl rfl (V_field rfl rfl fo_28_2) ?_ | refine GT_st rfl rfl rfl rfl (V_fieldA rfl rfl fo_28_2) ?_
  refine GT_st rfl rfl rfl rfl (V_load rfl rfl ag_2 (CellAt.item rfl)) ?_
  first | refine GT_st rfl rfl rfl rfl (V_field rfl rfl fo_28_1) ?_ | refine GT_st rfl rfl rfl rfl (V_fieldA rfl rfl fo_28_1) ?_
  refine GT_st rfl rfl rfl rfl (V_load rfl rfl ag_2 (CellAt.item rfl)) ?_
  refine GT_st rfl rfl rfl rfl (V_isF (V_gtr rfl rfl rfl) (by omega)) ?_
  refine GT_nil ?_
  refine GE_cond_f rfl ?_
  refine GE_skip ?_
  refine GE_seq ?_
  refine GE_slots (L' := [(15, _), (16, _), (18, _), (19, _), (20, _), (21, _)]) ⟨rfl, rfl, rfl, rfl, rfl, rfl, trivial⟩ ?_
  refine GE_plain (.st 0 (.st 1 (.ld 2 [] (.st 3 .nil)))) rfl ?_
  refine GT_st rfl rfl rfl rfl (V_move rfl rfl) ?_
  refine GT_st rfl rfl rfl rfl (V_move rfl rfl) ?_
  refine GT_call rfl rfl rfl rfl rfl rfl rfl rfl rn_5 (fun w hw => C_silent b_n.2 b_h) (fun _ _ => GR_nil) (fun y hy => ?_)
  refine GT_st rfl rfl rfl rfl (V_assign rfl rfl) ?_
  refine GT_nil ?_
  refine GE_seq ?_
  refine GE_plain (.st 0 (.st 1 (.ld 2 [] (.ld 3 [] (.ld 4 [] (.st 5 (.st 6 (.st 7 (.st 8 (.st 9 (.st 10 (.st 11 .nil)))))))))))) rfl ?_
  refine GT_st rfl rfl rfl rfl (V_loadN (vs := [_, _, _, _, _, _, _, _]) rfl rfl ag_24 sz_24 rfl (CellsAt.item rfl)) ?_
  refine GT_st rfl rfl rfl rfl (V_loadN (vs := [_, _, _]) rfl rfl ag_26 sz_26 rfl (CellsAt.item rfl)) ?_
  refine GT_buildSlice (z := [_, _, _]) rfl rfl rfl rfl rfl Tryz.underlying36 zc_26 sz_26 (by decide) rfl rfl (fun _ => GR_nil) (fun b95 => ?_)
  refine GT_buildSlice (z := [_]) rfl rfl rfl rfl rfl Tryz.underlying37 zc_3 sz_3 (by decide) rfl rfl (fun _ => GR_nil) (fun b96 => ?_)
  refine GT_call rfl rfl rfl rfl rfl rfl rfl rfl rn_6 (fun w hw => C_LayT1 Z he eN' eB (RdL.own' (l := [tT n h d]) hw (fun _ => rfl)) (RdL.own' (l := [0]) hw eN_len)) (fun _ _ => GR_nil) (fun z hz => ?_)
  refine GT_st rfl rfl rfl rfl (V_move rfl rfl) ?_
  refine GT_st rfl rfl rfl rfl (V_extract rfl rfl rfl) ?_
  refine GT_st rfl rfl rfl rfl (V_extract rfl rfl rfl) ?_
  refine GT_st rfl rfl rfl rfl (V_extract rfl rfl rfl) ?_
  refine GT_st rfl rfl rfl rfl (V_assign rfl rfl) ?_
  refine GT_st rfl rfl rfl rfl (V_assign rfl rfl) ?_
  refine GT_st rfl rfl rfl rfl (V_assign rfl rfl) ?_
  refine GT_nil ?_
  refine GE_seq ?_
  refine GE_slots (L' := [(15, _), (16, _), (18, _), (19, _), (20, _), (21, _), (22, _), (23, _), (24, _), (25, _)]) ⟨rfl, rfl, rfl, rfl, rfl, rfl, rfl, rfl, rfl, rfl, trivial⟩ ?_
  refine GE_plain (.st 0 (.st 1 (.ld 2 [] (.st 3 (.st 4 (.st 5 (.st 6 (.st 7 .nil)))))))) rfl ?_
  refine GT_st rfl rfl rfl rfl (V_loadN (vs := [_, _, _, _, _, _]) rfl rfl ag_28 sz_28 rfl (CellsAt.item rfl)) ?_
  refine GT_st rfl rfl rfl rfl (V_move rfl rfl) ?_
  refine GT_call rfl rfl rfl rfl rfl rfl rfl rfl rn_7 (fun w hw => C_OutT1 (hy.rdH ePt_len hw) I0.1 I0.2) (fun _ _ => GR_nil) (fun v hv => ?_)
  refine GT_st rfl rfl rfl rfl (V_move rfl rfl) ?_
  refine GT_st rfl rfl rfl rfl (V_extract rfl rfl rfl) ?_
  refine GT_st rfl rfl rfl rfl (V_extract rfl rfl rfl) ?_
  refine GT_st rfl rfl rfl rfl (V_assign rfl rfl) ?_
  refine GT_st rfl rfl rfl rfl (V_assign rfl rfl) ?_
  refine GT_nil ?_
  refine GE_seq ?_
  refine GE_slots (L' := [(15, _), (16, _), (18, _), (19, _), (20, _), (21, _), (22, _), (23, _), (24, _), (25, _), (26, _), (27, _)]) ⟨rfl, rfl, rfl, rfl, rfl, rfl, rfl, rfl, rfl, rfl, rfl, rfl, trivial⟩ ?_
  refine GE_plain (.st 0 (.st 1 (.ld 2 [] (.st 3 (.st 4 (.st 5 (.st 6 (.st 7 .nil)))))))) rfl ?_
  refine GT_st rfl rfl rfl rfl (V_loadN (vs := [_, _, _, _, _, _, _, _]) rfl rfl ag_24 sz_24 rfl (CellsAt.item rfl)) ?_
  refine GT_st rfl rfl rfl rfl (V_loadN (vs := [_, _, _]) rfl rfl ag_26 sz_26 rfl (CellsAt.item rfl)) ?_
  refine GT_call0 rfl rfl rfl rfl rfl rfl rfl rfl rn_8 (fun w hw => C_WidthT Z) (GR_nil) ?_
  refine GT_st rfl rfl rfl rfl (V_move rfl rfl) ?_
  refine GT_st rfl rfl rfl rfl (V_extract rfl rfl rfl) ?_
  refine GT_st rfl rfl rfl rfl (V_extract rfl rfl rfl) ?_
  refine GT_st rfl rfl rfl rfl (V_assign rfl rfl) ?_
  refine GT_st rfl rfl rfl rfl (V_assign rfl rfl) ?_
  refine GT_nil ?_
  refine GE_seq ?_
  refine GE_seq ?_
  refine GE_slots (L' := [(15, _), (16, _), (18, _), (19, _), (20, _), (21, _), (22, _), (23, _), (24, _), (25, _), (26, _), (27, _), (28, _), (29, _)]) ⟨rfl, rfl, rfl, rfl, rfl, rfl, rfl, rfl, rfl, rfl, rfl, rfl, rfl, rfl, trivial⟩ ?_
  refine GE_plain (.st 0 (.st 1 (.st 2 (.st 3 (.st 4 (.st 5 (.st 6 (.st 7 (.st 8 .nil))))))))) rfl ?_
  refine GT_st rfl rfl rfl rfl (V_move rfl rfl) ?_
  refine GT_st rfl rfl rfl rfl (V_isF (V_neq rfl rfl rfl) (fun q => q rfl)) ?_
  refine GT_st rfl rfl rfl rfl (V_move rfl rfl) ?_
  refine GT_st_g rfl rfl rfl rfl rfl rfl rfl (V_move rfl rfl) ?_
  refine GT_st_g rfl rfl rfl rfl rfl rfl rfl (V_isT (V_eql rfl rfl rfl) (by decide)) ?_
  refine GT_st_g rfl rfl rfl rfl rfl rfl rfl (V_move rfl rfl) ?_
  refine GT_st_g rfl rfl rfl rfl rfl rfl rfl (V_isT (V_eql rfl rfl rfl) (by decide)) ?_
  refine GT_st_g rfl rfl rfl rfl rfl rfl rfl (V_neqBB_same rfl rfl rfl Tryz.underlying4 rfl) ?_
  refine GT_st rfl rfl rfl rfl (V_pick_f rfl rfl rfl) ?_
  refine GT_nil ?_
  refine GE_cond_f rfl ?_
  refine GE_skip ?_
  refine GE_seq ?_
  refine GE_seq ?_
  refine GE_slots (L' := [(15, _), (16, _), (18, _), (19, _), (20, _), (21, _), (22, _), (23, _), (24, _), (25, _), (26, _), (27, _), (28, _)]) ⟨rfl, rfl, rfl, rfl, rfl, rfl, rfl, rfl, rfl, rfl, rfl, rfl, rfl, trivial⟩ ?_
  refine GE_plain (.st 0 (.st 1 .nil)) rfl ?_
  refine GT_st rfl rfl rfl rfl (V_move rfl rfl) ?_
  refine GT_st rfl rfl rfl rfl (V_isF (V_neq rfl rfl rfl) (fun q => q rfl)) ?_
  refine GT_nil ?_
  refine GE_cond_f rfl ?_
  refine GE_skip ?_
  refine GE_seq ?_
  refine GE_slots (L' := [(15, _), (16, _), (18, _), (19, _), (23, _), (24, _), (26, _), (28, _)]) ⟨rfl, rfl, rfl, rfl, rfl, rfl, rfl, rfl, trivial⟩ ?_
  refine GE_drawn (.st 0 (.st 1 (.st 2 (.st 3 (.st 4 (.st 5 (.st 6 (.st 7 (.st 8 (.st 9 (.st 10 (.st 11 (.st 12 (.st 13 (.st 14 (.st 15 (.st 16 (.st 17 (.st 18 (.st 19 (.st 20 (.st 21 (.st 22 (.st 23 (.st 24 (.st 25 (.st 26 (.st 27 (.st 28 (.st 29 (.st 30 (.st 31 (.st 32 (.st 33 (.st 34 (.st 35 (.st 36 (.st 37 (.st 38 (.st 39 (.st 40 (.st 41 (.st 42 (.st 43 (.st 44 (.st 45 (.st 46 (.st 47 (.st 48 (.st 49 (.st 50 (.st 51 (.st 52 (.st 53 (.st 54 (.st 55 (.st 56 (.st 57 (.st 58 (.st 59 (.ld 60 [] (.st 61 (.st 62 .nil))))))))))))))))))))))))))))))))))))))))))))))))))))))))))))))) [60] (by decide +kernel) ?_
  refine GT_st rfl rfl rfl rfl (V_move rfl rfl) ?_
  refine GT_st rfl rfl rfl rfl (V_isT (V_eql rfl rfl rfl) rfl) ?_
  refine GT_st rfl rfl rfl rfl (V_move rfl rfl) ?_
  refine GT_st_g rfl rfl rfl rfl rfl rfl rfl (V_move rfl rfl) ?_
  refine GT_st_g rfl rfl rfl rfl rfl rfl rfl (V_len rfl Tryz.underlying32 rfl) ?_
  refine GT_st_g rfl rfl rfl rfl rfl rfl rfl (V_isT (V_eql rfl rfl rfl) rfl) ?_
  refine GT_st rfl rfl rfl rfl (V_pick_t rfl rfl rfl) ?_
  refine GT_st rfl rfl rfl rfl (V_move rfl rfl) ?_
  refine GT_st_g rfl rfl rfl rfl rfl rfl rfl (V_move rfl rfl) ?_
  refine GT_st_g rfl rfl rfl rfl rfl rfl rfl (V_len rfl Tryz.underlying38 rfl) ?_
  refine GT_st_g rfl rfl rfl rfl rfl rfl rfl (V_move rfl rfl) ?_
  refine GT_st_g rfl rfl rfl rfl rfl rfl rfl (V_isT (V_eql rfl rfl rfl) rfl) ?_
  refine GT_st rfl rfl rfl rfl (V_pick_t rfl rfl rfl) ?_
  refine GT_st rfl rfl rfl rfl (V_move rfl rfl) ?_
  refine GT_st_g rfl rfl rfl rfl rfl rfl rfl (V_move rfl rfl) ?_
  refine GT_st_g rfl rfl rfl rfl rfl rfl rfl (V_index (k := 0) rfl rfl rfl Tryz.underlying32 sz_50 rfl Nat.zero_lt_one (hz.isSome (k := 0) Nat.zero_lt_one)) ?_
  first | refine GT_st_g rfl rfl rfl rfl rfl rfl rfl (V_field rfl rfl fo_50_1) ?_ | refine GT_st_g rfl rfl rfl rfl rfl rfl rfl (V_fieldA rfl rfl fo_50_1) ?_
  refine GT_st_g rfl rfl rfl rfl rfl rfl rfl (V_load rfl rfl ag_2 (CellAt.own (k := 0) (j := 1) hz eBnd_len Nat.zero_lt_one rfl)) ?_
  first | refine GT_st_g rfl rfl rfl rfl rfl rfl rfl (V_field rfl rfl fo_24_1) ?_ | refine GT_st_g rfl rfl rfl rfl rfl rfl rfl (V_fieldA rfl rfl fo_24_1) ?_
  refine GT_st_g rfl rfl rfl rfl rfl rfl rfl (V_load rfl rfl ag_2 (CellAt.item rfl)) ?_
  refine GT_st_g rfl rfl rfl rfl rfl rfl rfl (V_isT (V_eql rfl rfl rfl) (by simp)) ?_
  refine GT_st rfl rfl rfl rfl (V_pick_t rfl rfl rfl) ?_
  refine GT_st rfl rfl rfl rfl (V_move rfl rfl) ?_
  refine GT_st_g rfl rfl rfl rfl rfl rfl rfl (V_move rfl rfl) ?_
  refine GT_st_g rfl rfl rfl rfl rfl rfl rfl (V_index (k := 0) rfl rfl rfl Tryz.underlying32 sz_50 rfl Nat.zero_lt_one (hz.isSome (k := 0) Nat.zero_lt_one)) ?_
  first | refine GT_st_g rfl rfl rfl rfl rfl rfl rfl (V_field rfl rfl fo_50_2) ?_ | refine GT_st_g rfl rfl rfl rfl rfl rfl rfl (V_fieldA rfl rfl fo_50_2) ?_
  refine GT_st_g rfl rfl rfl rfl rfl rfl rfl (V_load rfl rfl ag_2 (CellAt.own (k := 0) (j := 2) hz eBnd_len Nat.zero_lt_one rfl)) ?_
  first | refine GT_st_g rfl rfl rfl rfl rfl rfl rfl (V_field rfl rfl fo_24_1) ?_ | refine GT_st_g rfl rfl rfl rfl rfl rfl rfl (V_fieldA rfl rfl fo_24_1) ?_
  refine GT_st_g rfl rfl rfl rfl rfl rfl rfl (V_load rfl rfl ag_2 (CellAt.item rfl)) ?_
  refine GT_st_g rfl rfl rfl rfl rfl rfl rfl (V_move rfl rfl) ?_
  refine GT_st_g rfl rfl rfl rfl rfl rfl rfl (V_sub rfl rfl rfl ((wrap_i64 (by omega)))) ?_
  refine GT_st_g rfl rfl rfl rfl rfl rfl rfl (V_isT (V_eql rfl rfl rfl) (by simp)) ?_
  refine GT_st rfl rfl rfl rfl (V_pick_t rfl rfl rfl) ?_
  refine GT_st rfl rfl rfl rfl (V_move rfl rfl) ?_
  refine GT_st_g rfl rfl rfl rfl rfl rfl rfl (V_move rfl rfl) ?_
  refine GT_st_g rfl rfl rfl rfl rfl rfl rfl (V_index (k := 0) rfl rfl rfl Tryz.underlying38 sz_2 rfl (by omega) (hv.isSome (k := 0) (by rw [tpL_len]; omega))) ?_
  refine GT_st_g rfl rfl rfl rfl rfl rfl rfl (V_load rfl rfl ag_2 (CellAt.own0 hv eI_len (k := 0) (by rw [tpL_len]; omega) (by rw [tpL_get (by omega)]; rfl))) ?_
  refine GT_st_g rfl rfl rfl rfl rfl rfl rfl (V_move rfl rfl) ?_
  refine GT_st_g rfl rfl rfl rfl rfl rfl rfl (V_add rfl rfl rfl ((wrap_i64 (by omega)))) ?_
  first | refine GT_st_g rfl rfl rfl rfl rfl rfl rfl (V_field rfl rfl fo_24_1) ?_ | refine GT_st_g rfl rfl rfl rfl rfl rfl rfl (V_fieldA rfl rfl fo_24_1) ?_
  refine GT_st_g rfl rfl rfl rfl rfl rfl rfl (V_load rfl rfl ag_2 (CellAt.item rfl)) ?_
  refine GT_st_g rfl rfl rfl rfl rfl rfl rfl (V_isT (V_eql rfl rfl rfl) (by omega)) ?_
  refine GT_st rfl rfl rfl rfl (V_pick_t rfl rfl rfl) ?_
  refine GT_st rfl rfl rfl rfl (V_move rfl rfl) ?_
  refine GT_st_g rfl rfl rfl rfl rfl rfl rfl (V_move rfl rfl) ?_
  refine GT_st_g rfl rfl rfl rfl rfl rfl rfl (V_move rfl rfl) ?_
  refine GT_st_g rfl rfl rfl rfl rfl rfl rfl (V_sub rfl rfl rfl ((wrap_i64 (by omega)))) ?_
  refine GT_st_g rfl rfl rfl rfl rfl rfl rfl (V_index rfl rfl rfl Tryz.underlying38 sz_2 (k := n - 1) (by omega) (by omega) (hv.isSome (k := n - 1) (by rw [tpL_len]; omega))) ?_
  refine GT_st_g rfl rfl rfl rfl rfl rfl rfl (V_load rfl rfl ag_2 (CellAt.own0 hv eI_len (k := n - 1) (by rw [tpL_len]; omega) (by rw [tpL_get (by omega)]; rfl))) ?_
  refine GT_st_g rfl rfl rfl rfl rfl rfl rfl (V_move rfl rfl) ?_
  refine GT_st_g rfl rfl rfl rfl rfl rfl rfl (V_sub rfl rfl rfl ((wrap_i64 (by omega)))) ?_
  refine GT_st_g rfl rfl rfl rfl rfl rfl rfl (V_move rfl rfl) ?_
  refine GT_st_g rfl rfl rfl rfl rfl rfl rfl (V_sub rfl rfl rfl ((wrap_i64 (by omega)))) ?_
  refine GT_st_g rfl rfl rfl rfl rfl rfl rfl (V_move rfl rfl) ?_
  refine GT_st_g rfl rfl rfl rfl rfl rfl rfl (V_index (k := 0) rfl rfl rfl Tryz.underlying32 sz_50 rfl Nat.zero_lt_one (hz.isSome (k := 0) Nat.zero_lt_one)) ?_
  first | refine GT_st_g rfl rfl rfl rfl rfl rfl rfl (V_field rfl rfl fo_50_2) ?_ | refine GT_st_g rfl rfl rfl rfl rfl rfl rfl (V_fieldA rfl rfl fo_50_2) ?_
  refine GT_st_g rfl rfl rfl rfl rfl rfl rfl (V_load rfl rfl ag_2 (CellAt.own (k := 0) (j := 2) (u := I (O - wid (fT O Ci q T) (tT n h d))) hz eBnd_len Nat.zero_lt_one rfl)) ?_
  refine GT_st_g rfl rfl rfl rfl rfl rfl rfl (V_isT (V_eql rfl rfl rfl) (by omega)) ?_
  refine GT_st rfl rfl rfl rfl (V_pick_t rfl rfl rfl) ?_
  refine GT_st rfl rfl rfl rfl (V_move rfl rfl) ?_
  refine GT_call0_g rfl rfl rfl rfl rfl rfl rfl rfl rfl rfl rfl rn_4 (fun w hw => C_works05) (GR_nil) ?_
  refine GT_st rfl rfl rfl rfl (V_pick_t rfl rfl rfl) ?_
  refine GT_st rfl rfl rfl rfl (V_assign rfl rfl) ?_
  refine GT_nil ?_
  refine GE_ret Tryz.func3 rfl (fun w hw => ⟨?_, hw.nil⟩)
  rfl
set_option maxRecDepth 20000 in
theorem C_TopLaid2 (Z : LaidIn x0 x1 x2 x3 x4 x5 x6 h d q O Ci T n) (hC : Ci + T + d ≤ O) (he : layE (fT O Ci q T) (tT n h d) = 14) (eN' : layN (fT O Ci q T) (tT n h d) = 1) (eB : layB (fT O Ci q T) (tT n h d) = []) : Con0 Tryz.prog 3 [.int .u16 x0, .int .u16 x1, .int .u16 x2, .int .u16 x3, .int .u16 x4, .int .u8 x5, .int .u8 x6] w (.bool true) := by
  have b_h := Z.h1
  have b_d := Z.d1
  have b_q := Z.q1
  have b_n := Z.n1
  have b_o := Z.o1
  have b_3 := Z.xs
  have b_c := Z.c1
  have b_t := Z.t1
  have hf := Z.fOk
  have ht := Z.tOk
  have hb := (Z.tp hC).both
  have I0 := Z.wrong hC (by rw [he]; decide)
  refine Ret_of (vs := [_, _, _, _, _, _, _]) hm none' Tryz.func3 rfl Tryz.ntmps3 rfl ?_
  dsimp only [slotsOf]
  refine GE_seq ?_
  refine GE_plain (.st 0 .nil) rfl ?_
  refine GT_st rfl rfl rfl rfl (V_assign rfl rfl) ?_
  refine GT_nil ?_
  refine GE_seq ?_
  refine GE_plain (.st 0 (.st 1 (.st 2 (.st 3 (.st 4 (.st 5 (.st 6 (.st 7 (.st 8 .nil))))))))) rfl ?_
  refine GT_st rfl rfl rfl rfl (V_move rfl rfl) ?_
  refine GT_st rfl rfl rfl rfl (V_convII rfl rfl (by rw [Tryz.underlying22]; rfl) Tryz.underlying2 (wrap_i64 (by omega))) ?_
  refine GT_st rfl rfl rfl rfl (V_rem rfl rfl rfl (by omega)) ?_
  refine GT_st rfl rfl rfl rfl (V_add rfl rfl rfl (Z.eh)) ?_
  refine GT_st rfl rfl rfl rfl (V_move rfl rfl) ?_
  refine GT_st rfl rfl rfl rfl (V_convII rfl rfl (by rw [Tryz.underlying22]; rfl) Tryz.underlying2 (wrap_i64 (by omega))) ?_
  refine GT_st rfl rfl rfl rfl (opv_eq (v' := I d) (V_rem rfl rfl rfl (by omega)) (congrArg (Value.int .i64) Z.ed)) ?_
  refine GT_st rfl rfl rfl rfl (V_assign rfl rfl) ?_
  refine GT_st rfl rfl rfl rfl (V_assign rfl rfl) ?_
  refine GT_nil ?_
  refine GE_seq ?_
  refine GE_slots (L' := [(2, _), (3, _), (4, _), (5, _), (6, _), (15, _), (16, _)]) ⟨rfl, rfl, rfl, rfl, rfl, rfl, rfl, trivial⟩ ?_
  refine GE_plain (.st 0 (.st 1 (.st 2 (.st 3 (.st 4 (.st 5 (.st 6 (.st 7 (.st 8 (.st 9 .nil)))))))))) rfl ?_
  refine GT_st rfl rfl rfl rfl (V_move rfl rfl) ?_
  refine GT_st rfl rfl rfl rfl (V_convII rfl rfl (by rw [Tryz.underlying5]; rfl) Tryz.underlying2 (wrap_i64 (by omega))) ?_
  refine GT_st rfl rfl rfl rfl (V_rem rfl rfl rfl (by omega)) ?_
  refine GT_st rfl rfl rfl rfl (V_add rfl rfl rfl (Z.eq)) ?_
  refine GT_st rfl rfl rfl rfl (V_move rfl rfl) ?_
  refine GT_st rfl rfl rfl rfl (V_convII rfl rfl (by rw [Tryz.underlying5]; rfl) Tryz.underlying3 (wrap_i64 (by omega))) ?_
  refine GT_st rfl rfl rfl rfl (V_rem rfl rfl rfl (by omega)) ?_
  refine GT_st rfl rfl rfl rfl (V_add rfl rfl rfl (Z.en)) ?_
  refine GT_st rfl rfl rfl rfl (V_assign rfl rfl) ?_
  refine GT_st rfl rfl rfl rfl (V_assign rfl rfl) ?_
  refine GT_nil ?_
  refine GE_seq ?_
  refine GE_slots (L' := [(2, _), (3, _), (4, _), (15, _), (16, _), (17, _), (18, _)]) ⟨rfl, rfl, rfl, rfl, rfl, rfl, rfl, trivial⟩ ?_
  refine GE_plain (.st 0 (.st 1 (.st 2 (.st 3 (.st 4 (.st 5 (.st 6 (.st 7 (.ld 8 [] (.ld 9 [] .nil)))))))))) rfl ?_
  refine GT_st rfl rfl rfl rfl (V_move rfl rfl) ?_
  refine GT_st rfl rfl rfl rfl (V_convII rfl rfl (by rw [Tryz.underlying22]; rfl) Tryz.underlying2 (wrap_i64 (by omega))) ?_
  refine GT_st rfl rfl rfl rfl (V_add rfl rfl rfl (Z.eO)) ?_
  refine GT_st rfl rfl rfl rfl (V_move rfl rfl) ?_
  refine GT_st rfl rfl rfl rfl (V_move rfl rfl) ?_
  refine GT_st rfl rfl rfl rfl (V_convII rfl rfl (by rw [Tryz.underlying22]; rfl) Tryz.underlying2 (wrap_i64 (by omega))) ?_
  refine GT_st rfl rfl rfl rfl (opv_eq (v' := I T) (V_rem rfl rfl rfl (by omega)) (congrArg (Value.int .i64) Z.eT)) ?_
  refine GT_st rfl rfl rfl rfl (V_build (vs := [_, _, _, _, _, _, _, _]) rfl rfl zc_24 pl_24 sa_24 rfl) ?_
  refine GT_alloc rfl rfl rfl rfl rfl zc_24 (fun _ => GR_nil) (fun b19 => ?_)
  refine GT_store (vs := [_, _, _, _, _, _, _, _]) (l' := [_, _, _, _, _, _, _, _]) rfl rfl rfl rfl rfl rfl rfl sz_24 rfl rfl (Nat.le_of_ble_eq_true rfl) rfl (GR_nil) ?_
  refine GT_nil ?_
  refine GE_seq ?_
  refine GE_slots (L' := [(3, _), (15, _), (16, _), (17, _), (18, _), (19, _)]) ⟨rfl, rfl, rfl, rfl, rfl, rfl, trivial⟩ ?_
  refine GE_plain (.st 0 (.st 1 (.st 2 (.st 3 (.st 4 (.st 5 (.st 6 (.st 7 (.ld 8 [] .nil))))))))) rfl ?_
  first | refine GT_st rfl rfl rfl rfl (V_field rfl rfl fo_24_1) ?_ | refine GT_st rfl rfl rfl rfl (V_fieldA rfl rfl fo_24_1) ?_
  refine GT_st rfl rfl rfl rfl (V_load rfl rfl ag_2 (CellAt.item rfl)) ?_
  refine GT_st rfl rfl rfl rfl (V_sub rfl rfl rfl ((wrap_i64 (by omega)))) ?_
  refine GT_st rfl rfl rfl rfl (V_move rfl rfl) ?_
  refine GT_st rfl rfl rfl rfl (V_convII rfl rfl (by rw [Tryz.underlying22]; rfl) Tryz.underlying2 (wrap_i64 (by omega))) ?_
  refine GT_st rfl rfl rfl rfl (V_sub rfl rfl rfl ((wrap_i64 (by omega)))) ?_
  refine GT_st rfl rfl rfl rfl (opv_eq (v' := I Ci) (V_max rfl rfl rfl) (congrArg (Value.int .i64) Z.eC)) ?_
  first | refine GT_st rfl rfl rfl rfl (V_field rfl rfl fo_24_2) ?_ | refine GT_st rfl rfl rfl rfl (V_fieldA rfl rfl fo_24_2) ?_
  refine GT_store (vs := [_]) (l' := [_, _, _, _, _, _, _, _]) rfl rfl rfl rfl rfl rfl rfl sz_2 rfl rfl (Nat.le_of_ble_eq_true rfl) rfl (GR_nil) ?_
  refine GT_nil ?_
  refine GE_seq ?_
  refine GE_slots (L' := [(15, _), (16, _), (17, _), (18, _), (19, _)]) ⟨rfl, rfl, rfl, rfl, rfl, trivial⟩ ?_
  refine GE_plain (.st 0 (.st 1 (.st 2 (.st 3 (.st 4 (.st 5 (.ld 6 [] (.ld 7 [] .nil)))))))) rfl ?_
  refine GT_st rfl rfl rfl rfl (V_move rfl rfl) ?_
  refine GT_st rfl rfl rfl rfl (V_move rfl rfl) ?_
  refine GT_st rfl rfl rfl rfl (V_mul rfl rfl rfl ((wrap_i64 (by omega)))) ?_
  refine GT_st rfl rfl rfl rfl (V_move rfl rfl) ?_
  refine GT_st rfl rfl rfl rfl (V_add rfl rfl rfl ((wrap_i64 (by omega)))) ?_
  refine GT_st rfl rfl rfl rfl (V_build (vs := [_, _, _]) rfl rfl zc_26 pl_26 sa_26 rfl) ?_
  refine GT_alloc rfl rfl rfl rfl rfl zc_26 (fun _ => GR_nil) (fun b20 => ?_)
  refine GT_store (vs := [_, _, _]) (l' := [_, _, _]) rfl rfl rfl rfl rfl rfl rfl sz_26 rfl rfl (Nat.le_of_ble_eq_true rfl) rfl (GR_nil) ?_
  refine GT_nil ?_
  refine GE_seq ?_
  refine GE_slots (L' := [(15, _), (16, _), (17, _), (18, _), (19, _), (20, _)]) ⟨rfl, rfl, rfl, rfl, rfl, rfl, trivial⟩ ?_
  refine GE_plain (.st 0 (.st 1 (.st 2 (.st 3 (.st 4 (.st 5 (.st 6 (.st 7 (.st 8 (.st 9 (.st 10 (.st 11 (.ld 12 [] (.ld 13 [] .nil)))))))))))))) rfl ?_
  refine GT_st rfl rfl rfl rfl (V_move rfl rfl) ?_
  first | refine GT_st rfl rfl rfl rfl (V_field rfl rfl fo_24_1) ?_ | refine GT_st rfl rfl rfl rfl (V_fieldA rfl rfl fo_24_1) ?_
  refine GT_st rfl rfl rfl rfl (V_load rfl rfl ag_2 (CellAt.item rfl)) ?_
  first | refine GT_st rfl rfl rfl rfl (V_field rfl rfl fo_24_2) ?_ | refine GT_st rfl rfl rfl rfl (V_fieldA rfl rfl fo_24_2) ?_
  refine GT_st rfl rfl rfl rfl (V_load rfl rfl ag_2 (CellAt.item rfl)) ?_
  first | refine GT_st rfl rfl rfl rfl (V_field rfl rfl fo_24_6) ?_ | refine GT_st rfl rfl rfl rfl (V_fieldA rfl rfl fo_24_6) ?_
  refine GT_st rfl rfl rfl rfl (V_load rfl rfl ag_2 (CellAt.item rfl)) ?_
  refine GT_st rfl rfl rfl rfl (V_add rfl rfl rfl ((wrap_i64 (by omega)))) ?_
  refine GT_st rfl rfl rfl rfl (V_move rfl rfl) ?_
  refine GT_st rfl rfl rfl rfl (V_add rfl rfl rfl ((wrap_i64 (by omega)))) ?_
  refine GT_st rfl rfl rfl rfl (V_move rfl rfl) ?_
  refine GT_st rfl rfl rfl rfl (V_build (vs := [_, _, _, _, _, _]) rfl rfl zc_28 pl_28 sa_28 rfl) ?_
  refine GT_alloc rfl rfl rfl rfl rfl zc_28 (fun _ => GR_nil) (fun b21 => ?_)
  refine GT_store (vs := [_, _, _, _, _, _]) (l' := [_, _, _, _, _, _]) rfl rfl rfl rfl rfl rfl rfl sz_28 rfl rfl (Nat.le_of_ble_eq_true rfl) rfl (GR_nil) ?_
  refine GT_nil ?_
  refine GE_seq ?_
  refine GE_seq ?_
  refine GE_slots (L' := [(15, _), (16, _), (18, _), (19, _), (20, _), (21, _)]) ⟨rfl, rfl, rfl, rfl, rfl, rfl, trivial⟩ ?_
  refine GE_plain (.st 0 (.st 1 (.st 2 (.st 3 (.st 4 .nil))))) rfl ?_
  first | refine GT_st rfl rfl rfl rfl (V_field rfl rfl fo_28_2) ?_ | refine GT_st rfl rfl rfl rfl (V_fieldA rfl rfl fo_28_2) ?_
  refine GT_st rfl rfl rfl rfl (V_load rfl rfl ag_2 (CellAt.item rfl)) ?_
  first | refine GT_st rfl rfl rfl rfl (V_field rfl rfl fo_28_1) ?_ | refine GT_st rfl rfl rfl rfl (V_fieldA rfl rfl fo_28_1) ?_
  refine GT_st rfl rfl rfl rfl (V_load rfl rfl ag_2 (CellAt.item rfl)) ?_
  refine GT_st rfl rfl rfl rfl (V_isF (V_gtr rfl rfl rfl) (by omega)) ?_
  refine GT_nil ?_
  refine GE_cond_f rfl ?_
  refine GE_skip ?_
  refine GE_seq ?_
  refine GE_slots (L' := [(15, _), (16, _), (18, _), (19, _), (20, _), (21, _)]) ⟨rfl, rfl, rfl, rfl, rfl, rfl, trivial⟩ ?_
  refine GE_plain (.st 0 (.st 1 (.ld 2 [] (.st 3 .nil)))) rfl ?_
  refine GT_st rfl rfl rfl rfl (V_move rfl rfl) ?_
  refine GT_st rfl rfl rfl rfl (V_move rfl rfl) ?_
  refine GT_call rfl rfl rfl rfl rfl rfl rfl rfl rn_5 (fun w hw => C_silent b_n.2 b_h) (fun _ _ => GR_nil) (fun y hy => ?_)
  refine GT_st rfl rfl rfl rfl (V_assign rfl rfl) ?_
  refine GT_nil ?_
  refine GE_seq ?_
  refine GE_plain (.st 0 (.st 1 (.ld 2 [] (.ld 3 [] (.ld 4 [] (.st 5 (.st 6 (.st 7 (.st 8 (.st 9 (.st 10 (.st 11 .nil)))))))))))) rfl ?_
  refine GT_st rfl rfl rfl rfl (V_loadN (vs := [_, _, _, _, _, _, _, _]) rfl rfl ag_24 sz_24 rfl (CellsAt.item rfl)) ?_
  refine GT_st rfl rfl rfl rfl (V_loadN (vs := [_, _, _]) rfl rfl ag_26 sz_26 rfl (CellsAt.item rfl)) ?_
  refine GT_buildSlice (z := [_, _, _]) rfl rfl rfl rfl rfl Tryz.underlying36 zc_26 sz_26 (by decide) rfl rfl (fun _ => GR_nil) (fun b95 => ?_)
  refine GT_buildSlice (z := [_]) rfl rfl rfl rfl rfl Tryz.underlying37 zc_3 sz_3 (by decide) rfl rfl (fun _ => GR_nil) (fun b96 => ?_)
  refine GT_call rfl rfl rfl rfl rfl rfl rfl rfl rn_6 (fun w hw => C_LayT0 Z he eN' eB (RdL.own' (l := [tT n h d]) hw (fun _ => rfl)) (RdL.own' (l := [0]) hw eN_len)) (fun _ _ => GR_nil) (fun z hz => ?_)
  refine GT_st rfl rfl rfl rfl (V_move rfl rfl) ?_
  refine GT_st rfl rfl rfl rfl (V_extract rfl rfl rfl) ?_
  refine GT_st rfl rfl rfl rfl (V_extract rfl rfl rfl) ?_
  refine GT_st rfl rfl rfl rfl (V_extract rfl rfl rfl) ?_
  refine GT_st rfl rfl rfl rfl (V_assign rfl rfl) ?_
  refine GT_st rfl rfl rfl rfl (V_assign rfl rfl) ?_
  refine GT_st rfl rfl rfl rfl (V_assign rfl rfl) ?_
  refine GT_nil ?_
  refine GE_seq ?_
  refine GE_slots (L' := [(15, _), (16, _), (18, _), (19, _), (20, _), (21, _), (22, _), (23, _), (24, _), (25, _)]) ⟨rfl, rfl, rfl, rfl, rfl, rfl, rfl, rfl, rfl, rfl, trivial⟩ ?_
  refine GE_plain (.st 0 (.st 1 (.ld 2 [] (.st 3 (.st 4 (.st 5 (.st 6 (.st 7 .nil)))))))) rfl ?_
  refine GT_st rfl rfl rfl rfl (V_loadN (vs := [_, _, _, _, _, _]) rfl rfl ag_28 sz_28 rfl (CellsAt.item rfl)) ?_
  refine GT_st rfl rfl rfl rfl (V_move rfl rfl) ?_
  refine GT_call rfl rfl rfl rfl rfl rfl rfl rfl rn_7 (fun w hw => C_OutT (hy.rdH ePt_len hw) (I0.1) (I0.2.1)) (fun _ _ => GR_nil) (fun v hv => ?_)
  refine GT_st rfl rfl rfl rfl (V_move rfl rfl) ?_
  refine GT_st rfl rfl rfl rfl (V_extract rfl rfl rfl) ?_
  refine GT_st rfl rfl rfl rfl (V_extract rfl rfl rfl) ?_
  refine GT_st rfl rfl rfl rfl (V_assign rfl rfl) ?_
  refine GT_st rfl rfl rfl rfl (V_assign rfl rfl) ?_
  refine GT_nil ?_
  refine GE_seq ?_
  refine GE_slots (L' := [(15, _), (16, _), (18, _), (19, _), (20, _), (21, _), (22, _), (23, _), (24, _), (25, _), (26, _), (27, _)]) ⟨rfl, rfl, rfl, rfl, rfl, rfl, rfl, rfl, rfl, rfl, rfl, rfl, trivial⟩ ?_
  refine GE_plain (.st 0 (.st 1 (.ld 2 [] (.st 3 (.st 4 (.st 5 (.st 6 (.st 7 .nil)))))))) rfl ?_
  refine GT_st rfl rfl rfl rfl (V_loadN (vs := [_, _, _, _, _, _, _, _]) rfl rfl ag_24 sz_24 rfl (CellsAt.item rfl)) ?_
  refine GT_st rfl rfl rfl rfl (V_loadN (vs := [_, _, _]) rfl rfl ag_26 sz_26 rfl (CellsAt.item rfl)) ?_
  refine GT_call0 rfl rfl rfl rfl rfl rfl rfl rfl rn_8 (fun w hw => C_WidthT Z) (GR_nil) ?_
  refine GT_st rfl rfl rfl rfl (V_move rfl rfl) ?_
  refine GT_st rfl rfl rfl rfl (V_extract rfl rfl rfl) ?_
  refine GT_st rfl rfl rfl rfl (V_extract rfl rfl rfl) ?_
  refine GT_st rfl rfl rfl rfl (V_assign rfl rfl) ?_
  refine GT_st rfl rfl rfl rfl (V_assign rfl rfl) ?_
  refine GT_nil ?_
  refine GE_seq ?_
  refine GE_seq ?_
  refine GE_slots (L' := [(15, _), (16, _), (18, _), (19, _), (20, _), (21, _), (22, _), (23, _), (24, _), (25, _), (26, _), (27, _), (28, _), (29, _)]) ⟨rfl, rfl, rfl, rfl, rfl, rfl, rfl, rfl, rfl, rfl, rfl, rfl, rfl, rfl, trivial⟩ ?_
  refine GE_plain (.st 0 (.st 1 (.st 2 (.st 3 (.st 4 (.st 5 (.st 6 (.st 7 (.st 8 .nil))))))))) rfl ?_
  refine GT_st rfl rfl rfl rfl (V_move rfl rfl) ?_
  refine GT_st rfl rfl rfl rfl (V_isF (V_neq rfl rfl rfl) (fun q => q rfl)) ?_
  refine GT_st rfl rfl rfl rfl (V_move rfl rfl) ?_
  refine GT_st_g rfl rfl rfl rfl rfl rfl rfl (V_move rfl rfl) ?_
  refine GT_st_g rfl rfl rfl rfl rfl rfl rfl (V_isF (V_eql rfl rfl rfl) (by decide)) ?_
  refine GT_st_g rfl rfl rfl rfl rfl rfl rfl (V_move rfl rfl) ?_
  refine GT_st_g rfl rfl rfl rfl rfl rfl rfl (V_isF (V_eql rfl rfl rfl) (by decide)) ?_
  refine GT_st_g rfl rfl rfl rfl rfl rfl rfl (V_neqBB_same rfl rfl rfl Tryz.underlying4 rfl) ?_
  refine GT_st rfl rfl rfl rfl (V_pick_f rfl rfl rfl) ?_
  refine GT_nil ?_
  refine GE_cond_f rfl ?_
  refine GE_skip ?_
  refine GE_seq ?_
  refine GE_seq ?_
  refine GE_slots (L' := [(15, _), (16, _), (18, _), (19, _), (20, _), (21, _), (22, _), (23, _), (24, _), (25, _), (26, _), (27, _), (28, _)]) ⟨rfl, rfl, rfl, rfl, rfl, rfl, rfl, rfl, rfl, rfl, rfl, rfl, rfl, trivial⟩ ?_
  refine GE_plain (.st 0 (.st 1 .nil)) rfl ?_
  refine GT_st rfl rfl rfl rfl (V_move rfl rfl) ?_
  refine GT_st rfl rfl rfl rfl (V_isT (V_neq rfl rfl rfl) (by decide)) ?_
  refine GT_nil ?_
  refine GE_cond_t rfl ?_
  refine GE_seq ?_
  refine GE_slots (L' := [(19, _), (20, _), (21, _), (22, _), (24, _), (25, _), (27, _)]) ⟨rfl, rfl, rfl, rfl, rfl, rfl, rfl, trivial⟩ ?_
  refine GE_plain (.st 0 (.st 1 (.ld 2 [] (.ld 3 [] (.st 4 (.st 5 (.st 6 (.st 7 (.st 8 .nil))))))))) rfl ?_
  refine GT_st rfl rfl rfl rfl (V_loadN (vs := [_, _, _, _, _, _, _, _]) rfl rfl ag_24 sz_24 rfl (CellsAt.item rfl)) ?_
  refine GT_st rfl rfl rfl rfl (V_loadN (vs := [_, _, _]) rfl rfl ag_26 sz_26 rfl (CellsAt.item rfl)) ?_
  refine GT_buildSlice (z := [_, _, _]) rfl rfl rfl rfl rfl Tryz.underlying36 zc_26 sz_26 (by decide) rfl rfl (fun _ => GR_nil) (fun b127 => ?_)
  refine GT_call rfl rfl rfl rfl rfl rfl rfl rfl rn_9 (fun w hw => C_CrowdT Z (by rw [he]; decide) (RdL.own' (l := [tT n h d]) hw (fun _ => rfl))) (fun _ _ => GR_nil) (fun u hu => ?_)
  refine GT_st rfl rfl rfl rfl (V_move rfl rfl) ?_
  refine GT_st rfl rfl rfl rfl (V_extract rfl rfl rfl) ?_
  refine GT_st rfl rfl rfl rfl (V_extract rfl rfl rfl) ?_
  refine GT_st rfl rfl rfl rfl (V_assign rfl rfl) ?_
  refine GT_st rfl rfl rfl rfl (V_assign rfl rfl) ?_
  refine GT_nil ?_
  refine GE_seq ?_
  refine GE_slots (L' := [(21, _), (22, _), (24, _), (25, _), (27, _), (30, _), (31, _)]) ⟨rfl, rfl, rfl, rfl, rfl, rfl, rfl, trivial⟩ ?_
  refine GE_plain (.st 0 (.st 1 (.ld 2 [] (.st 3 (.st 4 (.st 5 (.st 6 (.st 7 .nil)))))))) rfl ?_
  refine GT_st rfl rfl rfl rfl (V_loadN (vs := [_, _, _, _, _, _]) rfl rfl ag_28 sz_28 rfl (CellsAt.item rfl)) ?_
  refine GT_st rfl rfl rfl rfl (V_move rfl rfl) ?_
  refine GT_call rfl rfl rfl rfl rfl rfl rfl rfl rn_10 (fun w hw => C_RefuseT (hy.rdH ePt_len hw) hb I0.2.2) (fun _ _ => GR_nil) (fun r hr => ?_)
  refine GT_st rfl rfl rfl rfl (V_move rfl rfl) ?_
  refine GT_st rfl rfl rfl rfl (V_extract rfl rfl rfl) ?_
  refine GT_st rfl rfl rfl rfl (V_extract rfl rfl rfl) ?_
  refine GT_st rfl rfl rfl rfl (V_assign rfl rfl) ?_
  refine GT_st rfl rfl rfl rfl (V_assign rfl rfl) ?_
  refine GT_nil ?_
  refine GE_seq ?_
  refine GE_slots (L' := [(21, _), (22, _), (24, _), (25, _), (27, _), (30, _), (31, _), (32, _), (33, _)]) ⟨rfl, rfl, rfl, rfl, rfl, rfl, rfl, rfl, rfl, trivial⟩ ?_
  refine GE_plain (.st 0 (.st 1 (.st 2 (.st 3 (.st 4 (.st 5 (.st 6 (.st 7 (.st 8 (.st 9 (.st 10 (.st 11 (.st 12 (.st 13 (.st 14 (.st 15 (.st 16 (.st 17 (.st 18 (.st 19 (.st 20 (.st 21 (.st 22 (.st 23 (.st 24 (.st 25 (.st 26 (.st 27 (.st 28 (.st 29 (.st 30 (.st 31 (.st 32 (.st 33 (.st 34 (.st 35 (.st 36 (.st 37 (.st 38 (.st 39 (.st 40 (.ld 41 [] (.st 42 (.st 43 (.st 44 (.ld 45 [] (.st 46 (.st 47 .nil)))))))))))))))))))))))))))))))))))))))))))))))) rfl ?_
  refine GT_st rfl rfl rfl rfl (V_move rfl rfl) ?_
  refine GT_st rfl rfl rfl rfl (V_isT (V_eql rfl rfl rfl) rfl) ?_
  refine GT_st rfl rfl rfl rfl (V_move rfl rfl) ?_
  refine GT_st_g rfl rfl rfl rfl rfl rfl rfl (V_move rfl rfl) ?_
  refine GT_st_g rfl rfl rfl rfl rfl rfl rfl (V_isT (V_eql rfl rfl rfl) rfl) ?_
  refine GT_st rfl rfl rfl rfl (V_pick_t rfl rfl rfl) ?_
  refine GT_st rfl rfl rfl rfl (V_move rfl rfl) ?_
  refine GT_skip rfl rfl rfl rfl rfl (by decide) rfl rfl ?_
  refine GT_skip rfl rfl rfl rfl rfl (by decide) rfl rfl ?_
  refine GT_skip rfl rfl rfl rfl rfl (by decide) rfl rfl ?_
  refine GT_skip rfl rfl rfl rfl rfl (by decide) rfl rfl ?_
  refine GT_skip rfl rfl rfl rfl rfl (by decide) rfl rfl ?_
  refine GT_skip rfl rfl rfl rfl rfl (by decide) rfl rfl ?_
  refine GT_st rfl rfl rfl rfl (V_pick_t rfl rfl rfl) ?_
  refine GT_st rfl rfl rfl rfl (V_move rfl rfl) ?_
  refine GT_st_g rfl rfl rfl rfl rfl rfl rfl (V_move rfl rfl) ?_
  refine GT_st_g rfl rfl rfl rfl rfl rfl rfl (V_isT (V_eql rfl rfl rfl) rfl) ?_
  refine GT_st rfl rfl rfl rfl (V_pick_t rfl rfl rfl) ?_
  refine GT_st rfl rfl rfl rfl (V_move rfl rfl) ?_
  refine GT_st_g rfl rfl rfl rfl rfl rfl rfl (V_move rfl rfl) ?_
  refine GT_st_g rfl rfl rfl rfl rfl rfl rfl (V_isT (V_eql rfl rfl rfl) rfl) ?_
  refine GT_st rfl rfl rfl rfl (V_pick_t rfl rfl rfl) ?_
  refine GT_st rfl rfl rfl rfl (V_move rfl rfl) ?_
  refine GT_st_g rfl rfl rfl rfl rfl rfl rfl (V_move rfl rfl) ?_
  refine GT_st_g rfl rfl rfl rfl rfl rfl rfl (V_len rfl Tryz.underlying37 rfl) ?_
  refine GT_st_g rfl rfl rfl rfl rfl rfl rfl (V_isT (V_eql rfl rfl rfl) rfl) ?_
  refine GT_st rfl rfl rfl rfl (V_pick_t rfl rfl rfl) ?_
  refine GT_st rfl rfl rfl rfl (V_move rfl rfl) ?_
  refine GT_st_g rfl rfl rfl rfl rfl rfl rfl (V_move rfl rfl) ?_
  refine GT_st_g rfl rfl rfl rfl rfl rfl rfl (V_index (k := 0) rfl rfl rfl Tryz.underlying37 sz_3 rfl (by decide) (hu.isSome (k := 0) (by decide))) ?_
  refine GT_st_g rfl rfl rfl rfl rfl rfl rfl (V_load rfl rfl ag_3 (CellAt.own0 hu eN_len (k := 0) (by decide) rfl)) ?_
  refine GT_st_g rfl rfl rfl rfl rfl rfl rfl (V_isT (V_eql rfl rfl rfl) rfl) ?_
  refine GT_st rfl rfl rfl rfl (V_pick_t rfl rfl rfl) ?_
  refine GT_st rfl rfl rfl rfl (V_move rfl rfl) ?_
  refine GT_st_g rfl rfl rfl rfl rfl rfl rfl (V_move rfl rfl) ?_
  refine GT_st_g rfl rfl rfl rfl rfl rfl rfl (V_isT (V_eql rfl rfl rfl) rfl) ?_
  refine GT_st rfl rfl rfl rfl (V_pick_t rfl rfl rfl) ?_
  refine GT_st rfl rfl rfl rfl (V_move rfl rfl) ?_
  refine GT_st_g rfl rfl rfl rfl rfl rfl rfl (V_loadN (vs := [_, _, _, _, _, _]) rfl rfl ag_28 sz_28 rfl (CellsAt.item rfl)) ?_
  refine GT_st_g rfl rfl rfl rfl rfl rfl rfl (V_move rfl rfl) ?_
  refine GT_st_g rfl rfl rfl rfl rfl rfl rfl (V_move rfl rfl) ?_
  refine GT_call0_g rfl rfl rfl rfl rfl rfl rfl rfl rfl rfl rfl rn_11 (fun w hw => C_CheckRefusalT (hy.rdH ePt_len hw) (hr.1.rdH eStp_len hw) hr.2.1 hr.2.2) (GR_nil) ?_
  refine GT_st_g rfl rfl rfl rfl rfl rfl rfl (V_isT (V_eql rfl rfl rfl) rfl) ?_
  refine GT_st rfl rfl rfl rfl (V_pick_t rfl rfl rfl) ?_
  refine GT_st rfl rfl rfl rfl (V_move rfl rfl) ?_
  refine GT_call0_g rfl rfl rfl rfl rfl rfl rfl rfl rfl rfl rfl rn_4 (fun w hw => C_works05) (GR_nil) ?_
  refine GT_st rfl rfl rfl rfl (V_pick_t rfl rfl rfl) ?_
  refine GT_st rfl rfl rfl rfl (V_assign rfl rfl) ?_
  refine GT_nil ?_
  refine GE_ret Tryz.func3 rfl (fun w hw => ⟨?_, hw.nil⟩)
  rfl
set_option maxRecDepth 20000 in
theorem C_TopLaid3 (Z : LaidIn x0 x1 x2 x3 x4 x5 x6 h d q O Ci T n) (hC : Ci + T + d ≤ O) (he : layE (fT O Ci q T) (tT n h d) = 20) (eN' : layN (fT O Ci q T) (tT n h d) = 0) (eB : layB (fT O Ci q T) (tT n h d) = []) : Con0 Tryz.prog 3 [.int .u16 x0, .int .u16 x1, .int .u16 x2, .int .u16 x3, .int .u16 x4, .int .u8 x5, .int .u8 x6] w (.bool true) := by
  have b_h := Z.h1
  have b_d := Z.d1
  have b_q := Z.q1
  have b_n := Z.n1
  have b_o := Z.o1
  have b_3 := Z.xs
  have b_c := Z.c1
  have b_t := Z.t1
  have hf := Z.fOk
  have ht := Z.tOk
  have hb := (Z.tp hC).both
  have I0 := Z.wrong hC (by rw [he]; decide)
  refine Ret_of (vs := [_, _, _, _, _, _, _]) hm none' Tryz.func3 rfl Tryz.ntmps3 rfl ?_
  dsimp only [slotsOf]
  refine GE_seq ?_
  refine GE_plain (.st 0 .nil) rfl ?_
  refine GT_st rfl rfl rfl rfl (V_assign rfl rfl) ?_
  refine GT_nil ?_
  refine GE_seq ?_
  refine GE_plain (.st 0 (.st 1 (.st 2 (.st 3 (.st 4 (.st 5 (.st 6 (.st 7 (.st 8 .nil))))))))) rfl ?_
  refine GT_st rfl rfl rfl rfl (V_move rfl rfl) ?_
  refine GT_st rfl rfl rfl rfl (V_convII rfl rfl (by rw [Tryz.underlying22]; rfl) Tryz.underlying2 (wrap_i64 (by omega))) ?_
  refine GT_st rfl rfl rfl rfl (V_rem rfl rfl rfl (by omega)) ?_
  refine GT_st rfl rfl rfl rfl (V_add rfl rfl rfl (Z.eh)) ?_
  refine GT_st rfl rfl rfl rfl (V_move rfl rfl) ?_
  refine GT_st rfl rfl rfl rfl (V_convII rfl rfl (by rw [Tryz.underlying22]; rfl) Tryz.underlying2 (wrap_i64 (by omega))) ?_
  refine GT_st rfl rfl rfl rfl (opv_eq (v' := I d) (V_rem rfl rfl rfl (by omega)) (congrArg (Value.int .i64) Z.ed)) ?_
  refine GT_st rfl rfl rfl rfl (V_assign rfl rfl) ?_
  refine GT_st rfl rfl rfl rfl (V_assign rfl rfl) ?_
  refine GT_nil ?_
  refine GE_seq ?_
  refine GE_slots (L' := [(2, _), (3, _), (4, _), (5, _), (6, _), (15, _), (16, _)]) ⟨rfl, rfl, rfl, rfl, rfl, rfl, rfl, trivial⟩ ?_
  refine GE_plain (.st 0 (.st 1 (.st 2 (.st 3 (.st 4 (.st 5 (.st 6 (.st 7 (.st 8 (.st 9 .nil)))))))))) rfl ?_
  refine GT_st rfl rfl rfl rfl (V_move rfl rfl) ?_
  refine GT_st rfl rfl rfl rfl (V_convII rfl rfl (by rw [Tryz.underlying5]; rfl) Tryz.underlying2 (wrap_i64 (by omega))) ?_
  refine GT_st rfl rfl rfl rfl (V_rem rfl rfl rfl (by omega)) ?_
  refine GT_st rfl rfl rfl rfl (V_add rfl rfl rfl (Z.eq)) ?_
  refine GT_st rfl rfl rfl rfl (V_move rfl rfl) ?_
  refine GT_st rfl rfl rfl rfl (V_convII rfl rfl (by rw [Tryz.underlying5]; rfl) Tryz.underlying3 (wrap_i64 (by omega))) ?_
  refine GT_st rfl rfl rfl rfl (V_rem rfl rfl rfl (by omega)) ?_
  refine GT_st rfl rfl rfl rfl (V_add rfl rfl rfl (Z.en)) ?_
  refine GT_st rfl rfl rfl rfl (V_assign rfl rfl) ?_
  refine GT_st rfl rfl rfl rfl (V_assign rfl rfl) ?_
  refine GT_nil ?_
  refine GE_seq ?_
  refine GE_slots (L' := [(2, _), (3, _), (4, _), (15, _), (16, _), (17, _), (18, _)]) ⟨rfl, rfl, rfl, rfl, rfl, rfl, rfl, trivial⟩ ?_
  refine GE_plain (.st 0 (.st 1 (.st 2 (.st 3 (.st 4 (.st 5 (.st 6 (.st 7 (.ld 8 [] (.ld 9 [] .nil)))))))))) rfl ?_
  refine GT_st rfl rfl rfl rfl (V_move rfl rfl) ?_
  refine GT_st rfl rfl rfl rfl (V_convII rfl rfl (by rw [Tryz.underlying22]; rfl) Tryz.underlying2 (wrap_i64 (by omega))) ?_
  refine GT_st rfl rfl rfl rfl (V_add rfl rfl rfl (Z.eO)) ?_
  refine GT_st rfl rfl rfl rfl (V_move rfl rfl) ?_
  refine GT_st rfl rfl rfl rfl (V_move rfl rfl) ?_
  refine GT_st rfl rfl rfl rfl (V_convII rfl rfl (by rw [Tryz.underlying22]; rfl) Tryz.underlying2 (wrap_i64 (by omega))) ?_
  refine GT_st rfl rfl rfl rfl (opv_eq (v' := I T) (V_rem rfl rfl rfl (by omega)) (congrArg (Value.int .i64) Z.eT)) ?_
  refine GT_st rfl rfl rfl rfl (V_build (vs := [_, _, _, _, _, _, _, _]) rfl rfl zc_24 pl_24 sa_24 rfl) ?_
  refine GT_alloc rfl rfl rfl rfl rfl zc_24 (fun _ => GR_nil) (fun b19 => ?_)
  refine GT_store (vs := [_, _, _, _, _, _, _, _]) (l' := [_, _, _, _, _, _, _, _]) rfl rfl rfl rfl rfl rfl rfl sz_24 rfl rfl (Nat.le_of_ble_eq_true rfl) rfl (GR_nil) ?_
  refine GT_nil ?_
  refine GE_seq ?_
  refine GE_slots (L' := [(3, _), (15, _), (16, _), (17, _), (18, _), (19, _)]) ⟨rfl, rfl, rfl, rfl, rfl, rfl, trivial⟩ ?_
  refine GE_plain (.st 0 (.st 1 (.st 2 (.st 3 (.st 4 (.st 5 (.st 6 (.st 7 (.ld 8 [] .nil))))))))) rfl ?_
  first | refine GT_st rfl rfl rfl rfl (V_field rfl rfl fo_24_1) ?_ | refine GT_st rfl rfl rfl rfl (V_fieldA rfl rfl fo_24_1) ?_
  refine GT_st rfl rfl rfl rfl (V_load rfl rfl ag_2 (CellAt.item rfl)) ?_
  refine GT_st rfl rfl rfl rfl (V_sub rfl rfl rfl ((wrap_i64 (by omega)))) ?_
  refine GT_st rfl rfl rfl rfl (V_move rfl rfl) ?_
  refine GT_st rfl rfl rfl rfl (V_convII rfl rfl (by rw [Tryz.underlying22]; rfl) Tryz.underlying2 (wrap_i64 (by omega))) ?_
  refine GT_st rfl rfl rfl rfl (V_sub rfl rfl rfl ((wrap_i64 (by omega)))) ?_
  refine GT_st rfl rfl rfl rfl (opv_eq (v' := I Ci) (V_max rfl rfl rfl) (congrArg (Value.int .i64) Z.eC)) ?_
  first | refine GT_st rfl rfl rfl rfl (V_field rfl rfl fo_24_2) ?_ | refine GT_st rfl rfl rfl rfl (V_fieldA rfl rfl fo_24_2) ?_
  refine GT_store (vs := [_]) (l' := [_, _, _, _, _, _, _, _]) rfl rfl rfl rfl rfl rfl rfl sz_2 rfl rfl (Nat.le_of_ble_eq_true rfl) rfl (GR_nil) ?_
  refine GT_nil ?_
  refine GE_seq ?_
  refine GE_slots (L' := [(15, _), (16, _), (17, _), (18, _), (19, _)]) ⟨rfl, rfl, rfl, rfl, rfl, trivial⟩ ?_
  refine GE_plain (.st 0 (.st 1 (.st 2 (.st 3 (.st 4 (.st 5 (.ld 6 [] (.ld 7 [] .nil)))))))) rfl ?_
  refine GT_st rfl rfl rfl rfl (V_move rfl rfl) ?_
  refine GT_st rfl rfl rfl rfl (V_move rfl rfl) ?_
  refine GT_st rfl rfl rfl rfl (V_mul rfl rfl rfl ((wrap_i64 (by omega)))) ?_
  refine GT_st rfl rfl rfl rfl (V_move rfl rfl) ?_
  refine GT_st rfl rfl rfl rfl (V_add rfl rfl rfl ((wrap_i64 (by omega)))) ?_
  refine GT_st rfl rfl rfl rfl (V_build (vs := [_, _, _]) rfl rfl zc_26 pl_26 sa_26 rfl) ?_
  refine GT_alloc rfl rfl rfl rfl rfl zc_26 (fun _ => GR_nil) (fun b20 => ?_)
  refine GT_store (vs := [_, _, _]) (l' := [_, _, _]) rfl rfl rfl rfl rfl rfl rfl sz_26 rfl rfl (Nat.le_of_ble_eq_true rfl) rfl (GR_nil) ?_
  refine GT_nil ?_
  refine GE_seq ?_
  refine GE_slots (L' := [(15, _), (16, _), (17, _), (18, _), (19, _), (20, _)]) ⟨rfl, rfl, rfl, rfl, rfl, rfl, trivial⟩ ?_
  refine GE_plain (.st 0 (.st 1 (.st 2 (.st 3 (.st 4 (.st 5 (.st 6 (.st 7 (.st 8 (.st 9 (.st 10 (.st 11 (.ld 12 [] (.ld 13 [] .nil)))))))))))))) rfl ?_
  refine GT_st rfl rfl rfl rfl (V_move rfl rfl) ?_
  first | refine GT_st rfl rfl rfl rfl (V_field rfl rfl fo_24_1) ?_ | refine GT_st rfl rfl rfl rfl (V_fieldA rfl rfl fo_24_1) ?_
  refine GT_st rfl rfl rfl rfl (V_load rfl rfl ag_2 (CellAt.item rfl)) ?_
  first | refine GT_st rfl rfl rfl rfl (V_field rfl rfl fo_24_2) ?_ | refine GT_st rfl rfl rfl rfl (V_fieldA rfl rfl fo_24_2) ?_
  refine GT_st rfl rfl rfl rfl (V_load rfl rfl ag_2 (CellAt.item rfl)) ?_
  first | refine GT_st rfl rfl rfl rfl (V_field rfl rfl fo_24_6) ?_ | refine GT_st rfl rfl rfl rfl (V_fieldA rfl rfl fo_24_6) ?_
  refine GT_st rfl rfl rfl rfl (V_load rfl rfl ag_2 (CellAt.item rfl)) ?_
  refine GT_st rfl rfl rfl rfl (V_add rfl rfl rfl ((wrap_i64 (by omega)))) ?_
  refine GT_st rfl rfl rfl rfl (V_move rfl rfl) ?_
  refine GT_st rfl rfl rfl rfl (V_add rfl rfl rfl ((wrap_i64 (by omega)))) ?_
  refine GT_st rfl rfl rfl rfl (V_move rfl rfl) ?_
  refine GT_st rfl rfl rfl rfl (V_build (vs := [_, _, _, _, _, _]) rfl rfl zc_28 pl_28 sa_28 rfl) ?_
  refine GT_alloc rfl rfl rfl rfl rfl zc_28 (fun _ => GR_nil) (fun b21 => ?_)
  refine GT_store (vs := [_, _, _, _, _, _]) (l' := [_, _, _, _, _, _]) rfl rfl rfl rfl rfl rfl rfl sz_28 rfl rfl (Nat.le_of_ble_eq_true rfl) rfl (GR_nil) ?_
  refine GT_nil ?_
  refine GE_seq ?_
  refine GE_seq ?_
  refine GE_slots (L' := [(15, _), (16, _), (18, _), (19, _), (20, _), (21, _)]) ⟨rfl, rfl, rfl, rfl, rfl, rfl, trivial⟩ ?_
  refine GE_plain (.st 0 (.st 1 (.st 2 (.st 3 (.st 4 .nil))))) rfl ?_
  first | refine GT_st rfl rfl rfl rfl (V_field rfl rfl fo_28_2) ?_ | refine GT_st rfl rfl rfl rfl (V_fieldA rfl rfl fo_28_2) ?_
  refine GT_st rfl rfl rfl rfl (V_load rfl rfl ag_2 (CellAt.item rfl)) ?_
  first | refine GT_st rfl rfl rfl rfl (V_field rfl rfl fo_28_1) ?_ | refine GT_st rfl rfl rfl rfl (V_fieldA rfl rfl fo_28_1) ?_
  refine GT_st rfl rfl rfl rfl (V_load rfl rfl ag_2 (CellAt.item rfl)) ?_
  refine GT_st rfl rfl rfl rfl (V_isF (V_gtr rfl rfl rfl) (by omega)) ?_
  refine GT_nil ?_
  refine GE_cond_f rfl ?_
  refine GE_skip ?_
  refine GE_seq ?_
  refine GE_slots (L' := [(15, _), (16, _), (18, _), (19, _), (20, _), (21, _)]) ⟨rfl, rfl, rfl, rfl, rfl, rfl, trivial⟩ ?_
  refine GE_plain (.st 0 (.st 1 (.ld 2 [] (.st 3 .nil)))) rfl ?_
  refine GT_st rfl rfl rfl rfl (V_move rfl rfl) ?_
  refine GT_st rfl rfl rfl rfl (V_move rfl rfl) ?_
  refine GT_call rfl rfl rfl rfl rfl rfl rfl rfl rn_5 (fun w hw => C_silent b_n.2 b_h) (fun _ _ => GR_nil) (fun y hy => ?_)
  refine GT_st rfl rfl rfl rfl (V_assign rfl rfl) ?_
  refine GT_nil ?_
  refine GE_seq ?_
  refine GE_plain (.st 0 (.st 1 (.ld 2 [] (.ld 3 [] (.ld 4 [] (.st 5 (.st 6 (.st 7 (.st 8 (.st 9 (.st 10 (.st 11 .nil)))))))))))) rfl ?_
  refine GT_st rfl rfl rfl rfl (V_loadN (vs := [_, _, _, _, _, _, _, _]) rfl rfl ag_24 sz_24 rfl (CellsAt.item rfl)) ?_
  refine GT_st rfl rfl rfl rfl (V_loadN (vs := [_, _, _]) rfl rfl ag_26 sz_26 rfl (CellsAt.item rfl)) ?_
  refine GT_buildSlice (z := [_, _, _]) rfl rfl rfl rfl rfl Tryz.underlying36 zc_26 sz_26 (by decide) rfl rfl (fun _ => GR_nil) (fun b95 => ?_)
  refine GT_buildSlice (z := [_]) rfl rfl rfl rfl rfl Tryz.underlying37 zc_3 sz_3 (by decide) rfl rfl (fun _ => GR_nil) (fun b96 => ?_)
  refine GT_call rfl rfl rfl rfl rfl rfl rfl rfl rn_6 (fun w hw => C_LayT0 Z he eN' eB (RdL.own' (l := [tT n h d]) hw (fun _ => rfl)) (RdL.own' (l := [0]) hw eN_len)) (fun _ _ => GR_nil) (fun z hz => ?_)
  refine GT_st rfl rfl rfl rfl (V_move rfl rfl) ?_
  refine GT_st rfl rfl rfl rfl (V_extract rfl rfl rfl) ?_
  refine GT_st rfl rfl rfl rfl (V_extract rfl rfl rfl) ?_
  refine GT_st rfl rfl rfl rfl (V_extract rfl rfl rfl) ?_
  refine GT_st rfl rfl rfl rfl (V_assign rfl rfl) ?_
  refine GT_st rfl rfl rfl rfl (V_assign rfl rfl) ?_
  refine GT_st rfl rfl rfl rfl (V_assign rfl rfl) ?_
  refine GT_nil ?_
  refine GE_seq ?_
  refine GE_slots (L' := [(15, _), (16, _), (18, _), (19, _), (20, _), (21, _), (22, _), (23, _), (24, _), (25, _)]) ⟨rfl, rfl, rfl, rfl, rfl, rfl, rfl, rfl, rfl, rfl, trivial⟩ ?_
  refine GE_plain (.st 0 (.st 1 (.ld 2 [] (.st 3 (.st 4 (.st 5 (.st 6 (.st 7 .nil)))))))) rfl ?_
  refine GT_st rfl rfl rfl rfl (V_loadN (vs := [_, _, _, _, _, _]) rfl rfl ag_28 sz_28 rfl (CellsAt.item rfl)) ?_
  refine GT_st rfl rfl rfl rfl (V_move rfl rfl) ?_
  refine GT_call rfl rfl rfl rfl rfl rfl rfl rfl rn_7 (fun w hw => C_OutT (hy.rdH ePt_len hw) (I0.1) (I0.2.1)) (fun _ _ => GR_nil) (fun v hv => ?_)
  refine GT_st rfl rfl rfl rfl (V_move rfl rfl) ?_
  refine GT_st rfl rfl rfl rfl (V_extract rfl rfl rfl) ?_
  refine GT_st rfl rfl rfl rfl (V_extract rfl rfl rfl) ?_
  refine GT_st rfl rfl rfl rfl (V_assign rfl rfl) ?_
  refine GT_st rfl rfl rfl rfl (V_assign rfl rfl) ?_
  refine GT_nil ?_
  refine GE_seq ?_
  refine GE_slots (L' := [(15, _), (16, _), (18, _), (19, _), (20, _), (21, _), (22, _), (23, _), (24, _), (25, _), (26, _), (27, _)]) ⟨rfl, rfl, rfl, rfl, rfl, rfl, rfl, rfl, rfl, rfl, rfl, rfl, trivial⟩ ?_
  refine GE_plain (.st 0 (.st 1 (.ld 2 [] (.st 3 (.st 4 (.st 5 (.st 6 (.st 7 .nil)))))))) rfl ?_
  refine GT_st rfl rfl rfl rfl (V_loadN (vs := [_, _, _, _, _, _, _, _]) rfl rfl ag_24 sz_24 rfl (CellsAt.item rfl)) ?_
  refine GT_st rfl rfl rfl rfl (V_loadN (vs := [_, _, _]) rfl rfl ag_26 sz_26 rfl (CellsAt.item rfl)) ?_
  refine GT_call0 rfl rfl rfl rfl rfl rfl rfl rfl rn_8 (fun w hw => C_WidthT Z) (GR_nil) ?_
  refine GT_st rfl rfl rfl rfl (V_move rfl rfl) ?_
  refine GT_st rfl rfl rfl rfl (V_extract rfl rfl rfl) ?_
  refine GT_st rfl rfl rfl rfl (V_extract rfl rfl rfl) ?_
  refine GT_st rfl rfl rfl rfl (V_assign rfl rfl) ?_
  refine GT_st rfl rfl rfl rfl (V_assign rfl rfl) ?_
  refine GT_nil ?_
  refine GE_seq ?_
  refine GE_seq ?_
  refine GE_slots (L' := [(15, _), (16, _), (18, _), (19, _), (20, _), (21, _), (22, _), (23, _), (24, _), (25, _), (26, _), (27, _), (28, _), (29, _)]) ⟨rfl, rfl, rfl, rfl, rfl, rfl, rfl, rfl, rfl, rfl, rfl, rfl, rfl, rfl, trivial⟩ ?_
  refine GE_plain (.st 0 (.st 1 (.st 2 (.st 3 (.st 4 (.st 5 (.st 6 (.st 7 (.st 8 .nil))))))))) rfl ?_
  refine GT_st rfl rfl rfl rfl (V_move rfl rfl) ?_
  refine GT_st rfl rfl rfl rfl (V_isF (V_neq rfl rfl rfl) (fun q => q rfl)) ?_
  refine GT_st rfl rfl rfl rfl (V_move rfl rfl) ?_
  refine GT_st_g rfl rfl rfl rfl rfl rfl rfl (V_move rfl rfl) ?_
  refine GT_st_g rfl rfl rfl rfl rfl rfl rfl (V_isF (V_eql rfl rfl rfl) (by decide)) ?_
  refine GT_st_g rfl rfl rfl rfl rfl rfl rfl (V_move rfl rfl) ?_
  refine GT_st_g rfl rfl rfl rfl rfl rfl rfl (V_isF (V_eql rfl rfl rfl) (by decide)) ?_
  refine GT_st_g rfl rfl rfl rfl rfl rfl rfl (V_neqBB_same rfl rfl rfl Tryz.underlying4 rfl) ?_
  refine GT_st rfl rfl rfl rfl (V_pick_f rfl rfl rfl) ?_
  refine GT_nil ?_
  refine GE_cond_f rfl ?_
  refine GE_skip ?_
  refine GE_seq ?_
  refine GE_seq ?_
  refine GE_slots (L' := [(15, _), (16, _), (18, _), (19, _), (20, _), (21, _), (22, _), (23, _), (24, _), (25, _), (26, _), (27, _), (28, _)]) ⟨rfl, rfl, rfl, rfl, rfl, rfl, rfl, rfl, rfl, rfl, rfl, rfl, rfl, trivial⟩ ?_
  refine GE_plain (.st 0 (.st 1 .nil)) rfl ?_
  refine GT_st rfl rfl rfl rfl (V_move rfl rfl) ?_
  refine GT_st rfl rfl rfl rfl (V_isT (V_neq rfl rfl rfl) (by decide)) ?_
  refine GT_nil ?_
  refine GE_cond_t rfl ?_
  refine GE_seq ?_
  refine GE_slots (L' := [(19, _), (20, _), (21, _), (22, _), (24, _), (25, _), (27, _)]) ⟨rfl, rfl, rfl, rfl, rfl, rfl, rfl, trivial⟩ ?_
  refine GE_plain (.st 0 (.st 1 (.ld 2 [] (.ld 3 [] (.st 4 (.st 5 (.st 6 (.st 7 (.st 8 .nil))))))))) rfl ?_
  refine GT_st rfl rfl rfl rfl (V_loadN (vs := [_, _, _, _, _, _, _, _]) rfl rfl ag_24 sz_24 rfl (CellsAt.item rfl)) ?_
  refine GT_st rfl rfl rfl rfl (V_loadN (vs := [_, _, _]) rfl rfl ag_26 sz_26 rfl (CellsAt.item rfl)) ?_
  refine GT_buildSlice (z := [_, _, _]) rfl rfl rfl rfl rfl Tryz.underlying36 zc_26 sz_26 (by decide) rfl rfl (fun _ => GR_nil) (fun b127 => ?_)
  refine GT_call rfl rfl rfl rfl rfl rfl rfl rfl rn_9 (fun w hw => C_CrowdT Z (by rw [he]; decide) (RdL.own' (l := [tT n h d]) hw (fun _ => rfl))) (fun _ _ => GR_nil) (fun u hu => ?_)
  refine GT_st rfl rfl rfl rfl (V_move rfl rfl) ?_
  refine GT_st rfl rfl rfl rfl (V_extract rfl rfl rfl) ?_
  refine GT_st rfl rfl rfl rfl (V_extract rfl rfl rfl) ?_
  refine GT_st rfl rfl rfl rfl (V_assign rfl rfl) ?_
  refine GT_st rfl rfl rfl rfl (V_assign rfl rfl) ?_
  refine GT_nil ?_
  refine GE_seq ?_
  refine GE_slots (L' := [(21, _), (22, _), (24, _), (25, _), (27, _), (30, _), (31, _)]) ⟨rfl, rfl, rfl, rfl, rfl, rfl, rfl, trivial⟩ ?_
  refine GE_plain (.st 0 (.st 1 (.ld 2 [] (.st 3 (.st 4 (.st 5 (.st 6 (.st 7 .nil)))))))) rfl ?_
  refine GT_st rfl rfl rfl rfl (V_loadN (vs := [_, _, _, _, _, _]) rfl rfl ag_28 sz_28 rfl (CellsAt.item rfl)) ?_
  refine GT_st rfl rfl rfl rfl (V_move rfl rfl) ?_
  refine GT_call rfl rfl rfl rfl rfl rfl rfl rfl rn_10 (fun w hw => C_RefuseT (hy.rdH ePt_len hw) hb I0.2.2) (fun _ _ => GR_nil) (fun r hr => ?_)
  refine GT_st rfl rfl rfl rfl (V_move rfl rfl) ?_
  refine GT_st rfl rfl rfl rfl (V_extract rfl rfl rfl) ?_
  refine GT_st rfl rfl rfl rfl (V_extract rfl rfl rfl) ?_
  refine GT_st rfl rfl rfl rfl (V_assign rfl rfl) ?_
  refine GT_st rfl rfl rfl rfl (V_assign rfl rfl) ?_
  refine GT_nil ?_
  refine GE_seq ?_
  refine GE_slots (L' := [(21, _), (22, _), (24, _), (25, _), (27, _), (30, _), (31, _), (32, _), (33, _)]) ⟨rfl, rfl, rfl, rfl, rfl, rfl, rfl, rfl, rfl, trivial⟩ ?_
  refine GE_plain (.st 0 (.st 1 (.st 2 (.st 3 (.st 4 (.st 5 (.st 6 (.st 7 (.st 8 (.st 9 (.st 10 (.st 11 (.st 12 (.st 13 (.st 14 (.st 15 (.st 16 (.st 17 (.st 18 (.st 19 (.st 20 (.st 21 (.st 22 (.st 23 (.st 24 (.st 25 (.st 26 (.st 27 (.st 28 (.st 29 (.st 30 (.st 31 (.st 32 (.st 33 (.st 34 (.st 35 (.st 36 (.st 37 (.st 38 (.st 39 (.st 40 (.ld 41 [] (.st 42 (.st 43 (.st 44 (.ld 45 [] (.st 46 (.st 47 .nil)))))))))))))))))))))))))))))))))))))))))))))))) rfl ?_
  refine GT_st rfl rfl rfl rfl (V_move rfl rfl) ?_
  refine GT_st rfl rfl rfl rfl (V_isF (V_eql rfl rfl rfl) (by decide)) ?_
  refine GT_st rfl rfl rfl rfl (V_move rfl rfl) ?_
  refine GT_skip rfl rfl rfl rfl rfl (by decide) rfl rfl ?_
  refine GT_skip rfl rfl rfl rfl rfl (by decide) rfl rfl ?_
  refine GT_st rfl rfl rfl rfl (V_pick_f rfl rfl rfl) ?_
  refine GT_st rfl rfl rfl rfl (V_move rfl rfl) ?_
  refine GT_st_g rfl rfl rfl rfl rfl rfl rfl (V_move rfl rfl) ?_
  refine GT_st_g rfl rfl rfl rfl rfl rfl rfl (V_isT (V_eql rfl rfl rfl) rfl) ?_
  refine GT_st_g rfl rfl rfl rfl rfl rfl rfl (V_move rfl rfl) ?_
  refine GT_st_g rfl rfl rfl rfl rfl rfl rfl (V_move rfl rfl) ?_
  refine GT_st_g rfl rfl rfl rfl rfl rfl rfl (V_isT (V_eql rfl rfl rfl) rfl) ?_
  refine GT_st_g rfl rfl rfl rfl rfl rfl rfl (V_pick_t rfl rfl rfl) ?_
  refine GT_st rfl rfl rfl rfl (V_pick_f rfl rfl rfl) ?_
  refine GT_st rfl rfl rfl rfl (V_move rfl rfl) ?_
  refine GT_st_g rfl rfl rfl rfl rfl rfl rfl (V_move rfl rfl) ?_
  refine GT_st_g rfl rfl rfl rfl rfl rfl rfl (V_isT (V_eql rfl rfl rfl) rfl) ?_
  refine GT_st rfl rfl rfl rfl (V_pick_t rfl rfl rfl) ?_
  refine GT_st rfl rfl rfl rfl (V_move rfl rfl) ?_
  refine GT_st_g rfl rfl rfl rfl rfl rfl rfl (V_move rfl rfl) ?_
  refine GT_st_g rfl rfl rfl rfl rfl rfl rfl (V_isT (V_eql rfl rfl rfl) rfl) ?_
  refine GT_st rfl rfl rfl rfl (V_pick_t rfl rfl rfl) ?_
  refine GT_st rfl rfl rfl rfl (V_move rfl rfl) ?_
  refine GT_st_g rfl rfl rfl rfl rfl rfl rfl (V_move rfl rfl) ?_
  refine GT_st_g rfl rfl rfl rfl rfl rfl rfl (V_len rfl Tryz.underlying37 rfl) ?_
  refine GT_st_g rfl rfl rfl rfl rfl rfl rfl (V_isT (V_eql rfl rfl rfl) rfl) ?_
  refine GT_st rfl rfl rfl rfl (V_pick_t rfl rfl rfl) ?_
  refine GT_st rfl rfl rfl rfl (V_move rfl rfl) ?_
  refine GT_st_g rfl rfl rfl rfl rfl rfl rfl (V_move rfl rfl) ?_
  refine GT_st_g rfl rfl rfl rfl rfl rfl rfl (V_index (k := 0) rfl rfl rfl Tryz.underlying37 sz_3 rfl (by decide) (hu.isSome (k := 0) (by decide))) ?_
  refine GT_st_g rfl rfl rfl rfl rfl rfl rfl (V_load rfl rfl ag_3 (CellAt.own0 hu eN_len (k := 0) (by decide) rfl)) ?_
  refine GT_st_g rfl rfl rfl rfl rfl rfl rfl (V_isT (V_eql rfl rfl rfl) rfl) ?_
  refine GT_st rfl rfl rfl rfl (V_pick_t rfl rfl rfl) ?_
  refine GT_st rfl rfl rfl rfl (V_move rfl rfl) ?_
  refine GT_st_g rfl rfl rfl rfl rfl rfl rfl (V_move rfl rfl) ?_
  refine GT_st_g rfl rfl rfl rfl rfl rfl rfl (V_isT (V_eql rfl rfl rfl) rfl) ?_
  refine GT_st rfl rfl rfl rfl (V_pick_t rfl rfl rfl) ?_
  refine GT_st rfl rfl rfl rfl (V_move rfl rfl) ?_
  refine GT_st_g rfl rfl rfl rfl rfl rfl rfl (V_loadN (vs := [_, _, _, _, _, _]) rfl rfl ag_28 sz_28 rfl (CellsAt.item rfl)) ?_
  refine GT_st_g rfl rfl rfl rfl rfl rfl rfl (V_move rfl rfl) ?_
  refine GT_st_g rfl rfl rfl rfl rfl rfl rfl (V_move rfl rfl) ?_
  refine GT_call0_g rfl rfl rfl rfl rfl rfl rfl rfl rfl rfl rfl rn_11 (fun w hw => C_CheckRefusalT (hy.rdH ePt_len hw) (hr.1.rdH eStp_len hw) hr.2.1 hr.2.2) (GR_nil) ?_
  refine GT_st_g rfl rfl rfl rfl rfl rfl rfl (V_isT (V_eql rfl rfl rfl) rfl) ?_
  refine GT_st rfl rfl rfl rfl (V_pick_t rfl rfl rfl) ?_
  refine GT_st rfl rfl rfl rfl (V_move rfl rfl) ?_
  refine GT_call0_g rfl rfl rfl rfl rfl rfl rfl rfl rfl rfl rfl rn_4 (fun w hw => C_works05) (GR_nil) ?_
  refine GT_st rfl rfl rfl rfl (V_pick_t rfl rfl rfl) ?_
  refine GT_st rfl rfl rfl rfl (V_assign rfl rfl) ?_
  refine GT_nil ?_
  refine GE_ret Tryz.func3 rfl (fun w hw => ⟨?_, hw.nil⟩)
  rfl
theorem L_TopLaid (h0 : 0 ≤ x0 ∧ x0 ≤ 65535) (h1 : 0 ≤ x1 ∧ x1 ≤ 65535) (h2 : 0 ≤ x2 ∧ x2 ≤ 65535) (h3 : 0 ≤ x3 ∧ x3 ≤ 65535) (h4 : 0 ≤ x4 ∧ x4 ≤ 65535) (h5 : 0 ≤ x5 ∧ x5 ≤ 255) (h6 : 0 ≤ x6 ∧ x6 ≤ 255) :
    Con0 Tryz.prog 3 [.int .u16 x0, .int .u16 x1, .int .u16 x2, .int .u16 x3, .int .u16 x4, .int .u8 x5, .int .u8 x6] w (.bool true) := by
  obtain ⟨h, d, q, O, Ci, T, n, Z⟩ := laid_in h0 h1 h2 h3 h4 h5 h6
  by_cases hC : Ci + T + d ≤ O
  · rcases layE_cases (f := fT O Ci q T) (t := tT n h d) with ⟨a, b, c⟩ | ⟨a, b, c⟩ | ⟨a, b, c⟩
    · exact C_TopLaid1 Z hC a b c
    · exact C_TopLaid2 Z hC a b c
    · exact C_TopLaid3 Z hC a b c
  · exact C_TopLaid0 Z hC
end
end Go.Proofs.YtogljfjbilndnaaGreatDoor.Side
