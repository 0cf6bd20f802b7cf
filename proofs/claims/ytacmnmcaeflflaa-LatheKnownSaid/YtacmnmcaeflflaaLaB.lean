/- Locked grooves, and the example, walked. -/
import Derived.Test.YtacmnmcaeflflaaLa8
import Derived.Test.YtacmnmcaeflflaaLaA
namespace Go.Proofs.Ytacmnmcaeflflaa
open Go.Sx Go.Proofs

/-- the innermost edge of the last turn, as far as sample i -/
def lockTo (b : Blank) (l : List Pt) (r : List Int) : Nat → Int
  | 0 => b.rim
  | i + 1 => if l.length - b.per.toNat ≤ i then min (lockTo b l r i) (r.getD i default + (l.getD i default).inn - b.land) else lockTo b l r i
theorem lockTo_rim {b : Blank} {l : List Pt} {r : List Int} : ∀ {i : Nat}, i ≤ l.length - b.per.toNat → lockTo b l r i = b.rim
  | 0, _ => rfl
  | i + 1, h => by rw [lockTo, if_neg (by omega)]; exact lockTo_rim (by omega)
theorem rOk_at {r : List Int} (h : r.all rOk = true) {q : Nat} (hq : q < r.length) : -16777216 ≤ r.getD q default ∧ r.getD q default ≤ 16777216 := by
  have := List.all_eq_true.1 h _ (List.getElem_mem hq)
  simp only [rOk, betw_iff] at this
  simp only [List.getD, List.getElem?_eq_getElem hq, Option.getD_some]; omega
theorem lockTo_bd {b : Blank} {l : List Pt} {r : List Int} (hb : b.ok = true) (hp : PtB l) (hrl : r.length = l.length) (h : r.all rOk = true) : ∀ {i : Nat}, i ≤ l.length → -67108864 ≤ lockTo b l r i ∧ lockTo b l r i ≤ 67108864
  | 0, _ => by rw [Blank.ok_iff] at hb; unfold lockTo; omega
  | i + 1, hi => by
    have h1 := lockTo_bd hb hp hrl h (i := i) (by omega)
    have h2 := rOk_at h (q := i) (by omega)
    have h3 := hp i (by omega)
    rw [Blank.ok_iff] at hb
    rw [lockTo]; split <;> omega
def lockRes (b : Blank) (l : List Pt) (r : List Int) (h : Int) : Int × Int :=
  if cutE b l r = 0 then (if betw h 1 4096 then (if l.length = 0 then (0, 5) else if lockTo b l r l.length < 2 * h then (0, 15) else (lockTo b l r l.length - h, 0)) else (0, 3)) else (0, cutE b l r)
theorem lockRes_err {b : Blank} {l : List Pt} {r : List Int} {h : Int} (e : cutE b l r ≠ 0) : lockRes b l r h = (0, cutE b l r) := if_neg e

section
variable {b : Blank} {A A2 : Option Addr} {l : List Pt} {r : List Int} {c c2 bs cs i : Nat} {h : Int} {w : World}
theorem C_lathe_inner (hs : SideAt w bs b A l c) (hcs : BlkAt w cs [ptr bs 0, .slice A2 r.length c2] 84) (hp : RdL w 2 ePt A l) (hr : RdL w 1 eI A2 r) (he : cutE b l r = 0) (hi : i < l.length) :
    Con0 Try.prog 52 [ptr cs 0, I i] w (I (r.getD i default + (l.getD i default).inn)) := by
  obtain ⟨h0, hrl, hall⟩ := cutE_zero.1 he
  obtain ⟨hb, hl, hpt⟩ := both_zero.1 h0
  have hp1 := ptB_of hpt i hi
  have hr1 := rOk_at hall (q := i) (by omega)
  refine Ret_of (vs := [_, _]) hm none' Try.func52 rfl Try.ntmps52 rfl ?_
  dsimp only [slotsOf]
  refine GE_seq ?_
  refine GE_plain (.st 0 .nil) rfl ?_
  refine GT_st rfl rfl rfl rfl (V_assign rfl rfl) ?_
  refine GT_nil ?_
  refine GE_seq ?_
  refine GE_drawn (.st 0 (.st 1 (.st 2 (.st 3 (.st 4 (.st 5 (.st 6 (.st 7 (.st 8 (.st 9 (.st 10 (.st 11 (.st 12 (.st 13 (.st 14 (.st 15 (.st 16 (.st 17 (.st 18 (.st 19 .nil)))))))))))))))))))) [] (by decide +kernel) ?_
  refine GT_st rfl rfl rfl rfl (V_move rfl rfl) ?_
  first | refine GT_st rfl rfl rfl rfl (V_nilCheck rfl rfl) ?_ | refine GT_st rfl rfl rfl rfl (V_nilCheck_func rfl rfl) ?_ | refine GT_st rfl rfl rfl rfl (V_nilCheck_yield rfl rfl) ?_
  first | refine GT_st rfl rfl rfl rfl (V_field rfl rfl fo_84_1) ?_ | refine GT_st rfl rfl rfl rfl (V_fieldA rfl rfl fo_84_1) ?_
  first | refine GT_st rfl rfl rfl rfl (V_load rfl rfl ag_25 (CellAt.item rfl)) ?_ | refine GT_st rfl rfl rfl rfl (V_load rfl rfl ag_25 (CellAt.old (hcs.cell rfl) (noM _))) ?_ | refine GT_st rfl rfl rfl rfl (V_load rfl rfl ag_25 (CellAt.old (hs.cell rfl) (noM _))) ?_
  refine GT_st rfl rfl rfl rfl (V_move rfl rfl) ?_
  refine GT_st rfl rfl rfl rfl (V_index rfl rfl rfl Try.underlying25 sz_2 (k := i) rfl (by omega) (hr.isSome (k := i) (by omega))) ?_
  refine GT_st rfl rfl rfl rfl (V_load rfl rfl ag_2 (hr.at0 noM (by omega) rfl)) ?_
  refine GT_st rfl rfl rfl rfl (V_move rfl rfl) ?_
  first | refine GT_st rfl rfl rfl rfl (V_nilCheck rfl rfl) ?_ | refine GT_st rfl rfl rfl rfl (V_nilCheck_func rfl rfl) ?_ | refine GT_st rfl rfl rfl rfl (V_nilCheck_yield rfl rfl) ?_
  first | refine GT_st rfl rfl rfl rfl (V_field rfl rfl fo_84_0) ?_ | refine GT_st rfl rfl rfl rfl (V_fieldA rfl rfl fo_84_0) ?_
  first | refine GT_st rfl rfl rfl rfl (V_load rfl rfl ag_66 (CellAt.item rfl)) ?_ | refine GT_st rfl rfl rfl rfl (V_load rfl rfl ag_66 (CellAt.old (hcs.cell rfl) (noM _))) ?_ | refine GT_st rfl rfl rfl rfl (V_load rfl rfl ag_66 (CellAt.old (hs.cell rfl) (noM _))) ?_
  first | refine GT_st rfl rfl rfl rfl (V_nilCheck rfl rfl) ?_ | refine GT_st rfl rfl rfl rfl (V_nilCheck_func rfl rfl) ?_ | refine GT_st rfl rfl rfl rfl (V_nilCheck_yield rfl rfl) ?_
  first | refine GT_st rfl rfl rfl rfl (V_field rfl rfl fo_92_1) ?_ | refine GT_st rfl rfl rfl rfl (V_fieldA rfl rfl fo_92_1) ?_
  first | refine GT_st rfl rfl rfl rfl (V_load rfl rfl ag_24 (CellAt.item rfl)) ?_ | refine GT_st rfl rfl rfl rfl (V_load rfl rfl ag_24 (CellAt.old (hcs.cell rfl) (noM _))) ?_ | refine GT_st rfl rfl rfl rfl (V_load rfl rfl ag_24 (CellAt.old (hs.cell rfl) (noM _))) ?_
  refine GT_st rfl rfl rfl rfl (V_move rfl rfl) ?_
  refine GT_st rfl rfl rfl rfl (V_index rfl rfl rfl Try.underlying24 sz_39 (k := i) rfl hi (hp.isSome hi)) ?_
  first | refine GT_st rfl rfl rfl rfl (V_field rfl rfl fo_39_0) ?_ | refine GT_st rfl rfl rfl rfl (V_fieldA rfl rfl fo_39_0) ?_
  refine GT_st rfl rfl rfl rfl (V_load rfl rfl ag_2 (hp.at0 noM hi rfl)) ?_
  refine GT_st rfl rfl rfl rfl (V_add rfl rfl rfl (wrap_i64 (by omega))) ?_
  refine GT_st rfl rfl rfl rfl (V_assign rfl rfl) ?_
  refine GT_nil ?_
  refine GE_ret Try.func52 rfl (fun w hw => ⟨?_, hw.nil⟩)
  rfl
theorem C_lathe_outer (hs : SideAt w bs b A l c) (hcs : BlkAt w cs [ptr bs 0, .slice A2 r.length c2] 84) (hp : RdL w 2 ePt A l) (hr : RdL w 1 eI A2 r) (he : cutE b l r = 0) (hi : i < l.length) :
    Con0 Try.prog 68 [ptr cs 0, I i] w (I (r.getD i default + (l.getD i default).out)) := by
  obtain ⟨h0, hrl, hall⟩ := cutE_zero.1 he
  obtain ⟨hb, hl, hpt⟩ := both_zero.1 h0
  have hp1 := ptB_of hpt i hi
  have hr1 := rOk_at hall (q := i) (by omega)
  refine Ret_of (vs := [_, _]) hm none' Try.func68 rfl Try.ntmps68 rfl ?_
  dsimp only [slotsOf]
  refine GE_seq ?_
  refine GE_plain (.st 0 .nil) rfl ?_
  refine GT_st rfl rfl rfl rfl (V_assign rfl rfl) ?_
  refine GT_nil ?_
  refine GE_seq ?_
  refine GE_drawn (.st 0 (.st 1 (.st 2 (.st 3 (.st 4 (.st 5 (.st 6 (.st 7 (.st 8 (.st 9 (.st 10 (.st 11 (.st 12 (.st 13 (.st 14 (.st 15 (.st 16 (.st 17 (.st 18 (.st 19 .nil)))))))))))))))))))) [] (by decide +kernel) ?_
  refine GT_st rfl rfl rfl rfl (V_move rfl rfl) ?_
  first | refine GT_st rfl rfl rfl rfl (V_nilCheck rfl rfl) ?_ | refine GT_st rfl rfl rfl rfl (V_nilCheck_func rfl rfl) ?_ | refine GT_st rfl rfl rfl rfl (V_nilCheck_yield rfl rfl) ?_
  first | refine GT_st rfl rfl rfl rfl (V_field rfl rfl fo_84_1) ?_ | refine GT_st rfl rfl rfl rfl (V_fieldA rfl rfl fo_84_1) ?_
  first | refine GT_st rfl rfl rfl rfl (V_load rfl rfl ag_25 (CellAt.item rfl)) ?_ | refine GT_st rfl rfl rfl rfl (V_load rfl rfl ag_25 (CellAt.old (hcs.cell rfl) (noM _))) ?_ | refine GT_st rfl rfl rfl rfl (V_load rfl rfl ag_25 (CellAt.old (hs.cell rfl) (noM _))) ?_
  refine GT_st rfl rfl rfl rfl (V_move rfl rfl) ?_
  refine GT_st rfl rfl rfl rfl (V_index rfl rfl rfl Try.underlying25 sz_2 (k := i) rfl (by omega) (hr.isSome (k := i) (by omega))) ?_
  refine GT_st rfl rfl rfl rfl (V_load rfl rfl ag_2 (hr.at0 noM (by omega) rfl)) ?_
  refine GT_st rfl rfl rfl rfl (V_move rfl rfl) ?_
  first | refine GT_st rfl rfl rfl rfl (V_nilCheck rfl rfl) ?_ | refine GT_st rfl rfl rfl rfl (V_nilCheck_func rfl rfl) ?_ | refine GT_st rfl rfl rfl rfl (V_nilCheck_yield rfl rfl) ?_
  first | refine GT_st rfl rfl rfl rfl (V_field rfl rfl fo_84_0) ?_ | refine GT_st rfl rfl rfl rfl (V_fieldA rfl rfl fo_84_0) ?_
  first | refine GT_st rfl rfl rfl rfl (V_load rfl rfl ag_66 (CellAt.item rfl)) ?_ | refine GT_st rfl rfl rfl rfl (V_load rfl rfl ag_66 (CellAt.old (hcs.cell rfl) (noM _))) ?_ | refine GT_st rfl rfl rfl rfl (V_load rfl rfl ag_66 (CellAt.old (hs.cell rfl) (noM _))) ?_
  first | refine GT_st rfl rfl rfl rfl (V_nilCheck rfl rfl) ?_ | refine GT_st rfl rfl rfl rfl (V_nilCheck_func rfl rfl) ?_ | refine GT_st rfl rfl rfl rfl (V_nilCheck_yield rfl rfl) ?_
  first | refine GT_st rfl rfl rfl rfl (V_field rfl rfl fo_92_1) ?_ | refine GT_st rfl rfl rfl rfl (V_fieldA rfl rfl fo_92_1) ?_
  first | refine GT_st rfl rfl rfl rfl (V_load rfl rfl ag_24 (CellAt.item rfl)) ?_ | refine GT_st rfl rfl rfl rfl (V_load rfl rfl ag_24 (CellAt.old (hcs.cell rfl) (noM _))) ?_ | refine GT_st rfl rfl rfl rfl (V_load rfl rfl ag_24 (CellAt.old (hs.cell rfl) (noM _))) ?_
  refine GT_st rfl rfl rfl rfl (V_move rfl rfl) ?_
  refine GT_st rfl rfl rfl rfl (V_index rfl rfl rfl Try.underlying24 sz_39 (k := i) rfl hi (hp.isSome hi)) ?_
  first | refine GT_st rfl rfl rfl rfl (V_field rfl rfl fo_39_1) ?_ | refine GT_st rfl rfl rfl rfl (V_fieldA rfl rfl fo_39_1) ?_
  refine GT_st rfl rfl rfl rfl (V_load rfl rfl ag_2 (hp.at1 noM hi rfl)) ?_
  refine GT_st rfl rfl rfl rfl (V_add rfl rfl rfl (wrap_i64 (by omega))) ?_
  refine GT_st rfl rfl rfl rfl (V_assign rfl rfl) ?_
  refine GT_nil ?_
  refine GE_ret Try.func68 rfl (fun w hw => ⟨?_, hw.nil⟩)
  rfl

theorem C_lathe_Locked (hp : RdL w 2 ePt A l) (hr : RdL w 1 eI A2 r) (hlr : r.length ≤ 1099511627776) :
    Con0 Try.prog 25 [b.val, .slice A l.length c, .slice A2 r.length c2, I h] w (.tuple #[I (lockRes b l r h).1, I (lockRes b l r h).2]) := by
  by_cases he : cutE b l r = 0
  · obtain ⟨h0, hrl, hall⟩ := cutE_zero.1 he
    obtain ⟨hb, hl, hpt⟩ := both_zero.1 h0
    have hpb := ptB_of hpt
    have hbo := Blank.ok_iff.1 hb
    have hlb := lockTo_bd hb hpb hrl hall (Nat.le_refl _)
    have hres : lockRes b l r h = (if betw h 1 4096 then (if l.length = 0 then (0, 5) else if lockTo b l r l.length < 2 * h then (0, 15) else (lockTo b l r l.length - h, 0)) else (0, 3)) := if_pos he
    rw [hres]; clear hres
    refine Ret_of (vs := [_, _, _, _]) hm none' Try.func25 rfl Try.ntmps25 rfl ?_
    dsimp only [slotsOf]
    refine GE_seq ?_
    refine GE_plain (.ld 0 [] (.st 1 (.st 2 .nil))) rfl ?_
    refine GT_box (z := [_, _, _, _, _, _]) rfl rfl rfl rfl rfl rfl rfl (fun _ => GR_nil) (fun b4 => ?_)
    refine GT_st rfl rfl rfl rfl (V_assign rfl rfl) ?_
    refine GT_st rfl rfl rfl rfl (V_assign rfl rfl) ?_
    refine GT_nil ?_
    refine GE_seq ?_
    refine GE_plain (.st 0 (.st 1 (.st 2 (.ld 3 [] (.st 4 (.st 5 (.st 6 (.st 7 (.st 8 .nil))))))))) rfl ?_
    refine GT_st rfl rfl rfl rfl (V_loadN (vs := [_, _, _, _, _, _]) rfl rfl ag_23 sz_23 rfl (CellsAt.item rfl)) ?_
    refine GT_st rfl rfl rfl rfl (V_move rfl rfl) ?_
    refine GT_st rfl rfl rfl rfl (V_move rfl rfl) ?_
    refine GT_call rfl rfl rfl rfl rfl rfl rfl rfl rn_42 (fun w hw => C_lathe_newCut_ok (hp.sh hw) (hr.sh hw) he) (fun _ _ => GR_nil) (fun x _ => ?_)
    obtain ⟨bs, bc⟩ := x; dsimp only
    refine GT_st rfl rfl rfl rfl (V_move rfl rfl) ?_
    refine GT_st rfl rfl rfl rfl (V_extract rfl rfl rfl) ?_
    refine GT_st rfl rfl rfl rfl (V_extract rfl rfl rfl) ?_
    refine GT_st rfl rfl rfl rfl (V_assign rfl rfl) ?_
    refine GT_st rfl rfl rfl rfl (V_assign rfl rfl) ?_
    refine GT_nil ?_
    refine GE_seq ?_
    refine GE_block ?_
    refine GE_seq ?_
    refine GE_slots (L' := [(1, _), (3, _), (4, _), (10, _), (11, _)]) ⟨rfl, rfl, rfl, rfl, rfl, trivial⟩ ?_
    refine GE_plain (.st 0 (.st 1 (.st 2 .nil))) rfl ?_
    refine GT_st rfl rfl rfl rfl (V_move rfl rfl) ?_
    refine GT_st rfl rfl rfl rfl (V_neq rfl rfl rfl) ?_
    refine GT_st rfl rfl rfl rfl (V_assign rfl rfl) ?_
    refine GT_nil ?_
    first | refine GE_condNot rfl (fun h1 => ?_) (fun h1 => ?_) | refine GE_cond rfl (fun h1 => ?_) (fun h1 => ?_) | refine GE_condNotB rfl (fun h1 => ?_) (fun h1 => ?_) | refine GE_condB rfl (fun h1 => ?_) (fun h1 => ?_)
    · exact absurd rfl h1
    · skip
      refine GE_seq ?_
      refine GE_slots (L' := [(1, _), (3, _), (4, _), (10, _)]) ⟨rfl, rfl, rfl, rfl, trivial⟩ ?_
      refine GE_plain (.st 0 (.ld 1 [] (.st 2 (.st 3 .nil)))) rfl ?_
      refine GT_st rfl rfl rfl rfl (V_move rfl rfl) ?_
      refine GT_call0 rfl rfl rfl rfl rfl rfl rfl rfl rn_49 (fun w hw => C_lathe_between) (GR_nil) ?_
      first | refine GT_st rfl rfl rfl rfl (V_not rfl rfl) ?_ | refine GT_st rfl rfl rfl rfl (V_notB rfl rfl) ?_
      refine GT_st rfl rfl rfl rfl (V_assign rfl rfl) ?_
      refine GT_nil ?_
      first | refine GE_condNot rfl (fun h2 => ?_) (fun h2 => ?_) | refine GE_cond rfl (fun h2 => ?_) (fun h2 => ?_) | refine GE_condNotB rfl (fun h2 => ?_) (fun h2 => ?_) | refine GE_condB rfl (fun h2 => ?_) (fun h2 => ?_)
      · skip
        refine GE_seq ?_
        refine GE_slots (L' := []) trivial ?_
        refine GE_plain (.st 0 (.st 1 .nil)) rfl ?_
        refine GT_st rfl rfl rfl rfl (V_assign rfl rfl) ?_
        refine GT_st rfl rfl rfl rfl (V_assign rfl rfl) ?_
        refine GT_nil ?_
        refine GE_ret Try.func25 ⟨_, _, rfl, rfl, rfl⟩ (fun w hw => ⟨?_, hw.nil⟩)
        rw [if_neg (by rw [h2]; decide)]
      · have hh := betw_iff.1 h2
        refine GE_seq ?_
        refine GE_slots (L' := [(1, _), (3, _), (4, _), (10, _)]) ⟨rfl, rfl, rfl, rfl, trivial⟩ ?_
        refine GE_plain (.st 0 (.st 1 (.st 2 (.st 3 .nil)))) rfl ?_
        refine GT_st rfl rfl rfl rfl (V_move rfl rfl) ?_
        refine GT_st rfl rfl rfl rfl (V_len rfl Try.underlying24 rfl) ?_
        refine GT_st rfl rfl rfl rfl (V_eql rfl rfl rfl) ?_
        refine GT_st rfl rfl rfl rfl (V_assign rfl rfl) ?_
        refine GT_nil ?_
        first | refine GE_condNot rfl (fun h3 => ?_) (fun h3 => ?_) | refine GE_cond rfl (fun h3 => ?_) (fun h3 => ?_) | refine GE_condNotB rfl (fun h3 => ?_) (fun h3 => ?_) | refine GE_condB rfl (fun h3 => ?_) (fun h3 => ?_)
        · have hz : l.length = 0 := (by omega)
          refine GE_seq ?_
          refine GE_slots (L' := []) trivial ?_
          refine GE_plain (.st 0 (.st 1 .nil)) rfl ?_
          refine GT_st rfl rfl rfl rfl (V_assign rfl rfl) ?_
          refine GT_st rfl rfl rfl rfl (V_assign rfl rfl) ?_
          refine GT_nil ?_
          refine GE_ret Try.func25 ⟨_, _, rfl, rfl, rfl⟩ (fun w hw => ⟨?_, hw.nil⟩)
          rw [if_pos h2, if_pos hz]
        · have hz : ¬ l.length = 0 := (by omega)
          refine GE_skip ?_
          refine GE_inBlock ?_
          refine GE_seq ?_
          refine GE_slots (L' := [(1, _), (3, _), (4, _), (10, _)]) ⟨rfl, rfl, rfl, rfl, trivial⟩ ?_
          refine GE_plain (.st 0 (.st 1 (.st 2 .nil))) rfl ?_
          first | refine GT_st rfl rfl rfl rfl (V_field rfl rfl fo_23_1) ?_ | refine GT_st rfl rfl rfl rfl (V_fieldA rfl rfl fo_23_1) ?_
          first | refine GT_st rfl rfl rfl rfl (V_load rfl rfl ag_2 (CellAt.item rfl)) ?_ | refine GT_st rfl rfl rfl rfl (V_load rfl rfl ag_2 (CellAt.item rfl)) ?_
          refine GT_st rfl rfl rfl rfl (V_assign rfl rfl) ?_
          refine GT_nil ?_
          refine GE_seq ?_
          refine GE_seq ?_
          refine GE_plain (.st 0 (.st 1 (.st 2 (.st 3 (.st 4 (.st 5 (.st 6 (.st 7 (.st 8 (.st 9 (.st 10 (.st 11 .nil)))))))))))) rfl ?_
          refine GT_st rfl rfl rfl rfl (V_move rfl rfl) ?_
          refine GT_st rfl rfl rfl rfl (V_len rfl Try.underlying24 rfl) ?_
          refine GT_st rfl rfl rfl rfl (V_move rfl rfl) ?_
          first | refine GT_st rfl rfl rfl rfl (V_nilCheck rfl rfl) ?_ | refine GT_st rfl rfl rfl rfl (V_nilCheck_func rfl rfl) ?_ | refine GT_st rfl rfl rfl rfl (V_nilCheck_yield rfl rfl) ?_
          first | refine GT_st rfl rfl rfl rfl (V_field rfl rfl fo_84_0) ?_ | refine GT_st rfl rfl rfl rfl (V_fieldA rfl rfl fo_84_0) ?_
          first | refine GT_st rfl rfl rfl rfl (V_load rfl rfl ag_66 (CellAt.item rfl)) ?_ | refine GT_st rfl rfl rfl rfl (V_load rfl rfl ag_66 (CellAt.item rfl)) ?_
          first | refine GT_st rfl rfl rfl rfl (V_nilCheck rfl rfl) ?_ | refine GT_st rfl rfl rfl rfl (V_nilCheck_func rfl rfl) ?_ | refine GT_st rfl rfl rfl rfl (V_nilCheck_yield rfl rfl) ?_
          first | refine GT_st rfl rfl rfl rfl (V_field rfl rfl fo_92_2) ?_ | refine GT_st rfl rfl rfl rfl (V_fieldA rfl rfl fo_92_2) ?_
          first | refine GT_st rfl rfl rfl rfl (V_load rfl rfl ag_3 (CellAt.item rfl)) ?_ | refine GT_st rfl rfl rfl rfl (V_load rfl rfl ag_3 (CellAt.item rfl)) ?_
          refine GT_st rfl rfl rfl rfl (V_sub rfl rfl rfl (wrap_i64 (by omega))) ?_
          refine GT_st rfl rfl rfl rfl (V_max rfl rfl rfl) ?_
          refine GT_st rfl rfl rfl rfl (V_assign rfl rfl) ?_
          refine GT_nil ?_
          refine GE_block ?_
          refine GE_to (GE_loop (ι := Nat) (fun k => l.length - k) (fun k => [(1, .slice A l.length c), (3, I h), (4, ptr b4 0), (10, ptr bc 0), (12, I (lockTo b l r k)), (13, I k)]) (fun k => [(b4, blk b.cells 23), (bc, blk [ptr bs 0, .slice A2 r.length c2] 84), (bs, blk (sideCells b A l c) 92)]) (fun k => l.length - b.per.toNat ≤ k ∧ k ≤ l.length) ?_ (l.length - b.per.toNat) ?_) ⟨rfl, rfl, rfl, rfl, lookI rfl (lockTo_rim (Nat.le_refl _)).symm, lookI rfl (by omega), trivial⟩ (HS.cons rfl (HS.cons rfl (HS.cons rfl HS.nil)))
          · rintro k ⟨hk1, hk2⟩ ih
            refine GE_seq ?_
            refine GE_seq ?_
            refine GE_plain (.st 0 (.st 1 (.st 2 (.st 3 .nil)))) rfl ?_
            refine GT_st rfl rfl rfl rfl (V_move rfl rfl) ?_
            refine GT_st rfl rfl rfl rfl (V_move rfl rfl) ?_
            refine GT_st rfl rfl rfl rfl (V_len rfl Try.underlying24 rfl) ?_
            refine GT_st rfl rfl rfl rfl (V_lss rfl rfl rfl) ?_
            refine GT_nil ?_
            first | refine GE_condNot rfl (fun h4 => ?_) (fun h4 => ?_) | refine GE_cond rfl (fun h4 => ?_) (fun h4 => ?_) | refine GE_condNotB rfl (fun h4 => ?_) (fun h4 => ?_) | refine GE_condB rfl (fun h4 => ?_) (fun h4 => ?_)
            · have hkl : k < l.length := (by omega); have hb1 := lockTo_bd hb hpb hrl hall hk2; have hp1 := hpb k hkl; have hr1 := rOk_at hall (q := k) (by omega)
              refine GE_skip ?_
              refine GE_seq ?_
              refine GE_block ?_
              refine GE_slots (L' := [(1, _), (3, _), (4, _), (10, _), (12, _), (13, _)]) ⟨rfl, rfl, rfl, rfl, rfl, rfl, trivial⟩ ?_
              refine GE_drawn (.st 0 (.st 1 (.st 2 (.st 4 (.st 5 (.ld 3 [0, 4, 5] (.st 6 (.st 7 (.ld 8 [] .nil))))))))) [3, 8] (by decide +kernel) ?_
              refine GT_st rfl rfl rfl rfl (V_move rfl rfl) ?_
              refine GT_st rfl rfl rfl rfl (V_move rfl rfl) ?_
              refine GT_st rfl rfl rfl rfl (V_move rfl rfl) ?_
              first | refine GT_st rfl rfl rfl rfl (V_field rfl rfl fo_23_3) ?_ | refine GT_st rfl rfl rfl rfl (V_fieldA rfl rfl fo_23_3) ?_
              first | refine GT_st rfl rfl rfl rfl (V_load rfl rfl ag_2 (CellAt.item rfl)) ?_ | refine GT_st rfl rfl rfl rfl (V_load rfl rfl ag_2 (CellAt.item rfl)) ?_
              refine GT_call0 rfl rfl rfl rfl rfl rfl rfl rfl rn_52 (fun w hw => C_lathe_inner (SideAt.of hw) (BlkAt.of hw) (hp.sh hw) (hr.sh hw) he hkl) (GR_cons rfl rfl rfl rfl (V_move rfl rfl) (GR_cons rfl rfl rfl rfl ((by first | exact V_field rfl rfl fo_23_3 | exact V_fieldA rfl rfl fo_23_3)) (GR_cons rfl rfl rfl rfl ((by first | exact V_load rfl rfl ag_2 (CellAt.item rfl) | exact V_load rfl rfl ag_2 (CellAt.item rfl))) (GR_nil)))) ?_
              refine GT_st rfl rfl rfl rfl (V_sub rfl rfl rfl (wrap_i64 (by omega))) ?_
              refine GT_st rfl rfl rfl rfl (V_min rfl rfl rfl) ?_
              refine GT_ldv rfl rfl rfl rfl rfl (V_assign rfl rfl) (GR_nil) ?_
              refine GT_nil ?_
              refine GE_inBlock ?_
              refine GE_slots (L' := [(1, _), (3, _), (4, _), (10, _), (12, _), (13, _)]) ⟨rfl, rfl, rfl, rfl, rfl, rfl, trivial⟩ ?_
              refine GE_plain (.st 0 (.st 1 (.ld 2 [] .nil))) rfl ?_
              refine GT_st rfl rfl rfl rfl (V_move rfl rfl) ?_
              refine GT_st rfl rfl rfl rfl (V_add rfl rfl rfl (wrap_i64 (by omega))) ?_
              refine GT_ldv rfl rfl rfl rfl rfl (V_assign rfl rfl) (GR_nil) ?_
              refine GT_nil ?_
              exact GE_to (ih (k + 1) ⟨by omega, by omega⟩ (by omega)) ⟨rfl, rfl, rfl, rfl, lookI rfl (by rw [lockTo, if_pos hk1]), rfl, trivial⟩ (HS.cons rfl (HS.cons rfl (HS.cons rfl HS.nil)))
            · obtain rfl : k = l.length := (by omega)
              refine GE_exit rfl ?_
              refine GE_seq ?_
              refine GE_seq ?_
              refine GE_slots (L' := [(3, _), (12, _)]) ⟨rfl, rfl, trivial⟩ ?_
              refine GE_plain (.st 0 (.st 1 (.st 2 (.st 3 .nil)))) rfl ?_
              refine GT_st rfl rfl rfl rfl (V_move rfl rfl) ?_
              refine GT_st rfl rfl rfl rfl (V_move rfl rfl) ?_
              refine GT_st rfl rfl rfl rfl (V_mul rfl rfl rfl (wrap_i64 (by omega))) ?_
              refine GT_st rfl rfl rfl rfl (V_lss rfl rfl rfl) ?_
              refine GT_nil ?_
              first | refine GE_condNot rfl (fun h5 => ?_) (fun h5 => ?_) | refine GE_cond rfl (fun h5 => ?_) (fun h5 => ?_) | refine GE_condNotB rfl (fun h5 => ?_) (fun h5 => ?_) | refine GE_condB rfl (fun h5 => ?_) (fun h5 => ?_)
              · skip
                refine GE_seq ?_
                refine GE_slots (L' := []) trivial ?_
                refine GE_plain (.st 0 (.st 1 .nil)) rfl ?_
                refine GT_st rfl rfl rfl rfl (V_assign rfl rfl) ?_
                refine GT_st rfl rfl rfl rfl (V_assign rfl rfl) ?_
                refine GT_nil ?_
                refine GE_ret Try.func25 ⟨_, _, rfl, rfl, rfl⟩ (fun w hw => ⟨?_, hw.nil⟩)
                rw [if_pos h2, if_neg hz, if_pos h5]
              · skip
                refine GE_skip ?_
                refine GE_seq ?_
                refine GE_slots (L' := [(3, _), (12, _)]) ⟨rfl, rfl, trivial⟩ ?_
                refine GE_plain (.st 0 (.st 1 (.st 2 (.st 3 (.st 4 .nil))))) rfl ?_
                refine GT_st rfl rfl rfl rfl (V_move rfl rfl) ?_
                refine GT_st rfl rfl rfl rfl (V_move rfl rfl) ?_
                refine GT_st rfl rfl rfl rfl (V_sub rfl rfl rfl (wrap_i64 (by omega))) ?_
                refine GT_st rfl rfl rfl rfl (V_assign rfl rfl) ?_
                refine GT_st rfl rfl rfl rfl (V_assign rfl rfl) ?_
                refine GT_nil ?_
                refine GE_ret Try.func25 ⟨_, _, rfl, rfl, rfl⟩ (fun w hw => ⟨?_, hw.nil⟩)
                rw [if_pos h2, if_neg hz, if_neg (by omega)]
          · exact ⟨Nat.le_refl _, by omega⟩
  · rw [lockRes_err he]
    refine Ret_of (vs := [_, _, _, _]) hm none' Try.func25 rfl Try.ntmps25 rfl ?_
    dsimp only [slotsOf]
    refine GE_seq ?_
    refine GE_plain (.ld 0 [] (.st 1 (.st 2 .nil))) rfl ?_
    refine GT_box (z := [_, _, _, _, _, _]) rfl rfl rfl rfl rfl rfl rfl (fun _ => GR_nil) (fun b4 => ?_)
    refine GT_st rfl rfl rfl rfl (V_assign rfl rfl) ?_
    refine GT_st rfl rfl rfl rfl (V_assign rfl rfl) ?_
    refine GT_nil ?_
    refine GE_seq ?_
    refine GE_plain (.st 0 (.st 1 (.st 2 (.ld 3 [] (.st 4 (.st 5 (.st 6 (.st 7 (.st 8 .nil))))))))) rfl ?_
    refine GT_st rfl rfl rfl rfl (V_loadN (vs := [_, _, _, _, _, _]) rfl rfl ag_23 sz_23 rfl (CellsAt.item rfl)) ?_
    refine GT_st rfl rfl rfl rfl (V_move rfl rfl) ?_
    refine GT_st rfl rfl rfl rfl (V_move rfl rfl) ?_
    refine GT_call0 rfl rfl rfl rfl rfl rfl rfl rfl rn_42 (fun w hw => C_lathe_newCut_err (hp.sh hw) (hr.sh hw) hlr he) (GR_nil) ?_
    refine GT_st rfl rfl rfl rfl (V_move rfl rfl) ?_
    refine GT_st rfl rfl rfl rfl (V_extract rfl rfl rfl) ?_
    refine GT_st rfl rfl rfl rfl (V_extract rfl rfl rfl) ?_
    refine GT_st rfl rfl rfl rfl (V_assign rfl rfl) ?_
    refine GT_st rfl rfl rfl rfl (V_assign rfl rfl) ?_
    refine GT_nil ?_
    refine GE_seq ?_
    refine GE_block ?_
    refine GE_seq ?_
    refine GE_slots (L' := [(1, _), (3, _), (4, _), (10, _), (11, _)]) ⟨rfl, rfl, rfl, rfl, rfl, trivial⟩ ?_
    refine GE_plain (.st 0 (.st 1 (.st 2 .nil))) rfl ?_
    refine GT_st rfl rfl rfl rfl (V_move rfl rfl) ?_
    refine GT_st rfl rfl rfl rfl (V_neq rfl rfl rfl) ?_
    refine GT_st rfl rfl rfl rfl (V_assign rfl rfl) ?_
    refine GT_nil ?_
    first | refine GE_condNot rfl (fun h1 => ?_) (fun h1 => ?_) | refine GE_cond rfl (fun h1 => ?_) (fun h1 => ?_) | refine GE_condNotB rfl (fun h1 => ?_) (fun h1 => ?_) | refine GE_condB rfl (fun h1 => ?_) (fun h1 => ?_)
    · skip
      refine GE_seq ?_
      refine GE_slots (L' := [(11, _)]) ⟨rfl, trivial⟩ ?_
      refine GE_plain (.st 0 (.st 1 (.st 2 .nil))) rfl ?_
      refine GT_st rfl rfl rfl rfl (V_move rfl rfl) ?_
      refine GT_st rfl rfl rfl rfl (V_assign rfl rfl) ?_
      refine GT_st rfl rfl rfl rfl (V_assign rfl rfl) ?_
      refine GT_nil ?_
      refine GE_ret Try.func25 ⟨_, _, rfl, rfl, rfl⟩ (fun w hw => ⟨?_, hw.nil⟩)
      rfl
    · exact absurd h1 he

theorem C_ref05_Locked (hp : RdL w 2 ePt A l) (hr : RdL w 1 eI A2 r) (hlr : r.length ≤ 1099511627776) :
    Con0 Try.prog 29 [b.val, .slice A l.length c, .slice A2 r.length c2, I h] w (.tuple #[I (lockRes b l r h).1, I (lockRes b l r h).2]) := by
  by_cases he : cutE b l r = 0
  · obtain ⟨h0, hrl, hall⟩ := cutE_zero.1 he
    obtain ⟨hb, hl, hpt⟩ := both_zero.1 h0
    have hpb := ptB_of hpt
    have hbo := Blank.ok_iff.1 hb
    have hlb := lockTo_bd hb hpb hrl hall (Nat.le_refl _)
    have hres : lockRes b l r h = (if betw h 1 4096 then (if l.length = 0 then (0, 5) else if lockTo b l r l.length < 2 * h then (0, 15) else (lockTo b l r l.length - h, 0)) else (0, 3)) := if_pos he
    rw [hres]; clear hres
    refine Ret_of (vs := [_, _, _, _]) hm none' Try.func29 rfl Try.ntmps29 rfl ?_
    dsimp only [slotsOf]
    refine GE_seq ?_
    refine GE_plain (.ld 0 [] (.st 1 (.st 2 .nil))) rfl ?_
    refine GT_box (z := [_, _, _, _, _, _]) rfl rfl rfl rfl rfl rfl rfl (fun _ => GR_nil) (fun b4 => ?_)
    refine GT_st rfl rfl rfl rfl (V_assign rfl rfl) ?_
    refine GT_st rfl rfl rfl rfl (V_assign rfl rfl) ?_
    refine GT_nil ?_
    refine GE_seq ?_
    refine GE_seq ?_
    refine GE_plain (.st 0 (.st 1 (.st 2 (.ld 3 [] (.st 4 .nil))))) rfl ?_
    refine GT_st rfl rfl rfl rfl (V_loadN (vs := [_, _, _, _, _, _]) rfl rfl ag_23 sz_23 rfl (CellsAt.item rfl)) ?_
    refine GT_st rfl rfl rfl rfl (V_move rfl rfl) ?_
    refine GT_st rfl rfl rfl rfl (V_move rfl rfl) ?_
    refine GT_call0 rfl rfl rfl rfl rfl rfl rfl rfl rn_47 (fun w hw => C_ref05_cut (hp.sh hw) (hr.sh hw) hlr) (GR_nil) ?_
    refine GT_st rfl rfl rfl rfl (V_neq rfl rfl rfl) ?_
    refine GT_nil ?_
    first | refine GE_condNot rfl (fun h1 => ?_) (fun h1 => ?_) | refine GE_cond rfl (fun h1 => ?_) (fun h1 => ?_) | refine GE_condNotB rfl (fun h1 => ?_) (fun h1 => ?_) | refine GE_condB rfl (fun h1 => ?_) (fun h1 => ?_)
    · exact absurd he h1
    · skip
      refine GE_skip ?_
      refine GE_seq ?_
      refine GE_seq ?_
      refine GE_slots (L' := [(1, _), (2, _), (3, _), (4, _)]) ⟨rfl, rfl, rfl, rfl, trivial⟩ ?_
      refine GE_plain (.st 0 (.ld 1 [] (.st 2 .nil))) rfl ?_
      refine GT_st rfl rfl rfl rfl (V_move rfl rfl) ?_
      refine GT_call0 rfl rfl rfl rfl rfl rfl rfl rfl rn_50 (fun w hw => C_ref05_within) (GR_nil) ?_
      first | refine GT_st rfl rfl rfl rfl (V_not rfl rfl) ?_ | refine GT_st rfl rfl rfl rfl (V_notB rfl rfl) ?_
      refine GT_nil ?_
      first | refine GE_condNot rfl (fun h2 => ?_) (fun h2 => ?_) | refine GE_cond rfl (fun h2 => ?_) (fun h2 => ?_) | refine GE_condNotB rfl (fun h2 => ?_) (fun h2 => ?_) | refine GE_condB rfl (fun h2 => ?_) (fun h2 => ?_)
      · skip
        refine GE_seq ?_
        refine GE_slots (L' := []) trivial ?_
        refine GE_plain (.st 0 (.st 1 .nil)) rfl ?_
        refine GT_st rfl rfl rfl rfl (V_assign rfl rfl) ?_
        refine GT_st rfl rfl rfl rfl (V_assign rfl rfl) ?_
        refine GT_nil ?_
        refine GE_ret Try.func29 ⟨_, _, rfl, rfl, rfl⟩ (fun w hw => ⟨?_, hw.nil⟩)
        rw [if_neg (by rw [h2]; decide)]
      · have hh := betw_iff.1 h2
        refine GE_skip ?_
        refine GE_seq ?_
        refine GE_seq ?_
        refine GE_plain (.st 0 (.st 1 (.st 2 .nil))) rfl ?_
        refine GT_st rfl rfl rfl rfl (V_move rfl rfl) ?_
        refine GT_st rfl rfl rfl rfl (V_len rfl Try.underlying24 rfl) ?_
        refine GT_st rfl rfl rfl rfl (V_eql rfl rfl rfl) ?_
        refine GT_nil ?_
        first | refine GE_condNot rfl (fun h3 => ?_) (fun h3 => ?_) | refine GE_cond rfl (fun h3 => ?_) (fun h3 => ?_) | refine GE_condNotB rfl (fun h3 => ?_) (fun h3 => ?_) | refine GE_condB rfl (fun h3 => ?_) (fun h3 => ?_)
        · have hz : l.length = 0 := (by omega)
          refine GE_seq ?_
          refine GE_slots (L' := []) trivial ?_
          refine GE_plain (.st 0 (.st 1 .nil)) rfl ?_
          refine GT_st rfl rfl rfl rfl (V_assign rfl rfl) ?_
          refine GT_st rfl rfl rfl rfl (V_assign rfl rfl) ?_
          refine GT_nil ?_
          refine GE_ret Try.func29 ⟨_, _, rfl, rfl, rfl⟩ (fun w hw => ⟨?_, hw.nil⟩)
          rw [if_pos h2, if_pos hz]
        · have hz : ¬ l.length = 0 := (by omega)
          refine GE_skip ?_
          refine GE_seq ?_
          refine GE_slots (L' := [(1, _), (2, _), (3, _), (4, _)]) ⟨rfl, rfl, rfl, rfl, trivial⟩ ?_
          refine GE_plain (.st 0 (.st 1 (.st 2 .nil))) rfl ?_
          first | refine GT_st rfl rfl rfl rfl (V_field rfl rfl fo_23_1) ?_ | refine GT_st rfl rfl rfl rfl (V_fieldA rfl rfl fo_23_1) ?_
          refine GT_st rfl rfl rfl rfl (V_load rfl rfl ag_2 (CellAt.item rfl)) ?_
          refine GT_st rfl rfl rfl rfl (V_assign rfl rfl) ?_
          refine GT_nil ?_
          refine GE_seq ?_
          refine GE_seq ?_
          refine GE_plain (.st 0 (.st 1 (.st 2 (.st 3 (.st 4 (.st 5 (.st 6 .nil))))))) rfl ?_
          refine GT_st rfl rfl rfl rfl (V_move rfl rfl) ?_
          refine GT_st rfl rfl rfl rfl (V_len rfl Try.underlying24 rfl) ?_
          first | refine GT_st rfl rfl rfl rfl (V_field rfl rfl fo_23_0) ?_ | refine GT_st rfl rfl rfl rfl (V_fieldA rfl rfl fo_23_0) ?_
          refine GT_st rfl rfl rfl rfl (V_load rfl rfl ag_2 (CellAt.item rfl)) ?_
          refine GT_st rfl rfl rfl rfl (V_sub rfl rfl rfl (wrap_i64 (by omega))) ?_
          refine GT_st rfl rfl rfl rfl (V_max rfl rfl rfl) ?_
          refine GT_st rfl rfl rfl rfl (V_assign rfl rfl) ?_
          refine GT_nil ?_
          refine GE_block ?_
          refine GE_to (GE_loop (ι := Nat) (fun k => l.length - k) (fun k => [(1, .slice A l.length c), (2, .slice A2 r.length c2), (3, I h), (4, ptr b4 0), (10, I (lockTo b l r k)), (11, I k)]) (fun k => [(b4, blk b.cells 23)]) (fun k => l.length - b.per.toNat ≤ k ∧ k ≤ l.length) ?_ (l.length - b.per.toNat) ?_) ⟨rfl, rfl, rfl, rfl, lookI rfl (lockTo_rim (Nat.le_refl _)).symm, lookI rfl (by omega), trivial⟩ (HS.cons rfl HS.nil)
          · rintro k ⟨hk1, hk2⟩ ih
            refine GE_seq ?_
            refine GE_seq ?_
            refine GE_plain (.st 0 (.st 1 (.st 2 (.st 3 .nil)))) rfl ?_
            refine GT_st rfl rfl rfl rfl (V_move rfl rfl) ?_
            refine GT_st rfl rfl rfl rfl (V_move rfl rfl) ?_
            refine GT_st rfl rfl rfl rfl (V_len rfl Try.underlying24 rfl) ?_
            refine GT_st rfl rfl rfl rfl (V_lss rfl rfl rfl) ?_
            refine GT_nil ?_
            first | refine GE_condNot rfl (fun h4 => ?_) (fun h4 => ?_) | refine GE_cond rfl (fun h4 => ?_) (fun h4 => ?_) | refine GE_condNotB rfl (fun h4 => ?_) (fun h4 => ?_) | refine GE_condB rfl (fun h4 => ?_) (fun h4 => ?_)
            · have hkl : k < l.length := (by omega); have hb1 := lockTo_bd hb hpb hrl hall hk2; have hp1 := hpb k hkl; have hr1 := rOk_at hall (q := k) (by omega)
              refine GE_skip ?_
              refine GE_seq ?_
              refine GE_block ?_
              refine GE_slots (L' := [(1, _), (2, _), (3, _), (4, _), (10, _), (11, _)]) ⟨rfl, rfl, rfl, rfl, rfl, rfl, trivial⟩ ?_
              refine GE_drawn (.st 0 (.st 1 (.st 2 (.st 3 (.st 4 (.st 5 (.st 6 (.st 7 (.st 8 (.st 9 (.st 10 (.st 11 (.st 12 (.st 13 (.st 14 (.ld 15 [] .nil)))))))))))))))) [15] (by decide +kernel) ?_
              refine GT_st rfl rfl rfl rfl (V_move rfl rfl) ?_
              refine GT_st rfl rfl rfl rfl (V_move rfl rfl) ?_
              refine GT_st rfl rfl rfl rfl (V_move rfl rfl) ?_
              refine GT_st rfl rfl rfl rfl (V_index rfl rfl rfl Try.underlying25 sz_2 (k := k) rfl (by omega) (hr.isSome (k := k) (by omega))) ?_
              refine GT_st rfl rfl rfl rfl (V_load rfl rfl ag_2 (hr.at0 noM (by omega) rfl)) ?_
              refine GT_st rfl rfl rfl rfl (V_move rfl rfl) ?_
              refine GT_st rfl rfl rfl rfl (V_move rfl rfl) ?_
              refine GT_st rfl rfl rfl rfl (V_index rfl rfl rfl Try.underlying24 sz_39 (k := k) rfl hkl (hp.isSome hkl)) ?_
              first | refine GT_st rfl rfl rfl rfl (V_field rfl rfl fo_39_0) ?_ | refine GT_st rfl rfl rfl rfl (V_fieldA rfl rfl fo_39_0) ?_
              refine GT_st rfl rfl rfl rfl (V_load rfl rfl ag_2 (hp.at0 noM hkl rfl)) ?_
              refine GT_st rfl rfl rfl rfl (V_add rfl rfl rfl (wrap_i64 (by omega))) ?_
              first | refine GT_st rfl rfl rfl rfl (V_field rfl rfl fo_23_3) ?_ | refine GT_st rfl rfl rfl rfl (V_fieldA rfl rfl fo_23_3) ?_
              refine GT_st rfl rfl rfl rfl (V_load rfl rfl ag_2 (CellAt.item rfl)) ?_
              refine GT_st rfl rfl rfl rfl (V_sub rfl rfl rfl (wrap_i64 (by omega))) ?_
              refine GT_st rfl rfl rfl rfl (V_min rfl rfl rfl) ?_
              refine GT_ldv rfl rfl rfl rfl rfl (V_assign rfl rfl) (GR_nil) ?_
              refine GT_nil ?_
              refine GE_inBlock ?_
              refine GE_slots (L' := [(1, _), (2, _), (3, _), (4, _), (10, _), (11, _)]) ⟨rfl, rfl, rfl, rfl, rfl, rfl, trivial⟩ ?_
              refine GE_plain (.st 0 (.st 1 (.ld 2 [] .nil))) rfl ?_
              refine GT_st rfl rfl rfl rfl (V_move rfl rfl) ?_
              refine GT_st rfl rfl rfl rfl (V_add rfl rfl rfl (wrap_i64 (by omega))) ?_
              refine GT_ldv rfl rfl rfl rfl rfl (V_assign rfl rfl) (GR_nil) ?_
              refine GT_nil ?_
              exact GE_to (ih (k + 1) ⟨by omega, by omega⟩ (by omega)) ⟨rfl, rfl, rfl, rfl, lookI rfl (by rw [lockTo, if_pos hk1]), rfl, trivial⟩ (HS.cons rfl HS.nil)
            · obtain rfl : k = l.length := (by omega)
              refine GE_exit rfl ?_
              refine GE_seq ?_
              refine GE_seq ?_
              refine GE_slots (L' := [(3, _), (10, _)]) ⟨rfl, rfl, trivial⟩ ?_
              refine GE_plain (.st 0 (.st 1 (.st 2 (.st 3 (.st 4 (.st 5 .nil)))))) rfl ?_
              refine GT_st rfl rfl rfl rfl (V_move rfl rfl) ?_
              refine GT_st rfl rfl rfl rfl (V_move rfl rfl) ?_
              refine GT_st rfl rfl rfl rfl (V_sub rfl rfl rfl (wrap_i64 (by omega))) ?_
              refine GT_st rfl rfl rfl rfl (V_move rfl rfl) ?_
              refine GT_st rfl rfl rfl rfl (V_sub rfl rfl rfl (wrap_i64 (by omega))) ?_
              refine GT_st rfl rfl rfl rfl (V_lss rfl rfl rfl) ?_
              refine GT_nil ?_
              first | refine GE_condNot rfl (fun h5 => ?_) (fun h5 => ?_) | refine GE_cond rfl (fun h5 => ?_) (fun h5 => ?_) | refine GE_condNotB rfl (fun h5 => ?_) (fun h5 => ?_) | refine GE_condB rfl (fun h5 => ?_) (fun h5 => ?_)
              · skip
                refine GE_seq ?_
                refine GE_slots (L' := []) trivial ?_
                refine GE_plain (.st 0 (.st 1 .nil)) rfl ?_
                refine GT_st rfl rfl rfl rfl (V_assign rfl rfl) ?_
                refine GT_st rfl rfl rfl rfl (V_assign rfl rfl) ?_
                refine GT_nil ?_
                refine GE_ret Try.func29 ⟨_, _, rfl, rfl, rfl⟩ (fun w hw => ⟨?_, hw.nil⟩)
                rw [if_pos h2, if_neg hz, if_pos (by omega)]
              · skip
                refine GE_skip ?_
                refine GE_seq ?_
                refine GE_slots (L' := [(3, _), (10, _)]) ⟨rfl, rfl, trivial⟩ ?_
                refine GE_plain (.st 0 (.st 1 (.st 2 (.st 3 (.st 4 .nil))))) rfl ?_
                refine GT_st rfl rfl rfl rfl (V_move rfl rfl) ?_
                refine GT_st rfl rfl rfl rfl (V_move rfl rfl) ?_
                refine GT_st rfl rfl rfl rfl (V_sub rfl rfl rfl (wrap_i64 (by omega))) ?_
                refine GT_st rfl rfl rfl rfl (V_assign rfl rfl) ?_
                refine GT_st rfl rfl rfl rfl (V_assign rfl rfl) ?_
                refine GT_nil ?_
                refine GE_ret Try.func29 ⟨_, _, rfl, rfl, rfl⟩ (fun w hw => ⟨?_, hw.nil⟩)
                rw [if_pos h2, if_neg hz, if_neg (by omega)]
          · exact ⟨Nat.le_refl _, by omega⟩
  · rw [lockRes_err he]
    refine Ret_of (vs := [_, _, _, _]) hm none' Try.func29 rfl Try.ntmps29 rfl ?_
    dsimp only [slotsOf]
    refine GE_seq ?_
    refine GE_plain (.ld 0 [] (.st 1 (.st 2 .nil))) rfl ?_
    refine GT_box (z := [_, _, _, _, _, _]) rfl rfl rfl rfl rfl rfl rfl (fun _ => GR_nil) (fun b4 => ?_)
    refine GT_st rfl rfl rfl rfl (V_assign rfl rfl) ?_
    refine GT_st rfl rfl rfl rfl (V_assign rfl rfl) ?_
    refine GT_nil ?_
    refine GE_seq ?_
    refine GE_seq ?_
    refine GE_plain (.st 0 (.st 1 (.st 2 (.ld 3 [] (.st 4 .nil))))) rfl ?_
    refine GT_st rfl rfl rfl rfl (V_loadN (vs := [_, _, _, _, _, _]) rfl rfl ag_23 sz_23 rfl (CellsAt.item rfl)) ?_
    refine GT_st rfl rfl rfl rfl (V_move rfl rfl) ?_
    refine GT_st rfl rfl rfl rfl (V_move rfl rfl) ?_
    refine GT_call0 rfl rfl rfl rfl rfl rfl rfl rfl rn_47 (fun w hw => C_ref05_cut (hp.sh hw) (hr.sh hw) hlr) (GR_nil) ?_
    refine GT_st rfl rfl rfl rfl (V_neq rfl rfl rfl) ?_
    refine GT_nil ?_
    first | refine GE_condNot rfl (fun h1 => ?_) (fun h1 => ?_) | refine GE_cond rfl (fun h1 => ?_) (fun h1 => ?_) | refine GE_condNotB rfl (fun h1 => ?_) (fun h1 => ?_) | refine GE_condB rfl (fun h1 => ?_) (fun h1 => ?_)
    · skip
      refine GE_seq ?_
      refine GE_slots (L' := [(1, _), (2, _), (4, _)]) ⟨rfl, rfl, rfl, trivial⟩ ?_
      refine GE_plain (.st 0 (.st 1 (.st 2 (.ld 3 [] (.st 4 (.st 5 .nil)))))) rfl ?_
      refine GT_st rfl rfl rfl rfl (V_loadN (vs := [_, _, _, _, _, _]) rfl rfl ag_23 sz_23 rfl (CellsAt.item rfl)) ?_
      refine GT_st rfl rfl rfl rfl (V_move rfl rfl) ?_
      refine GT_st rfl rfl rfl rfl (V_move rfl rfl) ?_
      refine GT_call0 rfl rfl rfl rfl rfl rfl rfl rfl rn_47 (fun w hw => C_ref05_cut (hp.sh hw) (hr.sh hw) hlr) (GR_nil) ?_
      refine GT_st rfl rfl rfl rfl (V_assign rfl rfl) ?_
      refine GT_st rfl rfl rfl rfl (V_assign rfl rfl) ?_
      refine GT_nil ?_
      refine GE_ret Try.func29 ⟨_, _, rfl, rfl, rfl⟩ (fun w hw => ⟨?_, hw.nil⟩)
      rfl
    · exact absurd h1 he
end

def exB : Blank := ⟨2, 1000, 100, 10, 1, 100⟩
def exL : List Pt := [⟨-20, 20⟩, ⟨-20, 20⟩, ⟨-20, 20⟩, ⟨-20, 50⟩, ⟨-20, 20⟩]
theorem C_law05_Example {w : World} : Con Try.prog 37 [] w (fun y : Nat × Items => Own 2 39 ePt exL (.slice (some ⟨y.1, 0, none⟩) exL.length exL.length) y.2) (fun y => .tuple #[exB.val, .slice (some ⟨y.1, 0, none⟩) 5 5]) (fun y => y.2) := by
  refine Ret_of (vs := []) hm none' Try.func37 rfl Try.ntmps37 rfl ?_
  dsimp only [slotsOf]
  refine GE_seq ?_
  refine GE_plain (.ld 0 [] (.st 1 .nil)) rfl ?_
  refine GT_alloc rfl rfl rfl rfl rfl zc_23 (fun _ => GR_nil) (fun b0 => ?_)
  refine GT_st rfl rfl rfl rfl (V_assign rfl rfl) ?_
  refine GT_nil ?_
  refine GE_seq ?_
  refine GE_plain (.st 0 (.st 1 (.ld 2 [] (.ld 3 [] (.ld 4 [] (.ld 5 [] .nil)))))) rfl ?_
  refine GT_st rfl rfl rfl rfl (V_build (vs := [_, _]) rfl rfl zc_39 pl_39 sa_39 rfl) ?_
  refine GT_st rfl rfl rfl rfl (V_build (vs := [_, _]) rfl rfl zc_39 pl_39 sa_39 rfl) ?_
  refine GT_alloc rfl rfl rfl rfl rfl zc_39 (fun _ => GR_nil) (fun b2 => ?_)
  refine GT_alloc rfl rfl rfl rfl rfl zc_39 (fun _ => GR_nil) (fun b3 => ?_)
  refine GT_store (vs := [_, _]) (l' := [_, _]) rfl rfl rfl rfl rfl rfl rfl sz_39 rfl rfl (Nat.le_of_ble_eq_true rfl) rfl (GR_nil) ?_
  refine GT_store (vs := [_, _]) (l' := [_, _]) rfl rfl rfl rfl rfl rfl rfl sz_39 rfl rfl (Nat.le_of_ble_eq_true rfl) rfl (GR_nil) ?_
  refine GT_nil ?_
  refine GE_seq ?_
  refine GE_drawn (.st 0 (.st 1 (.st 2 (.st 3 (.st 4 (.st 5 (.br (.ld 6 [0] (.ld 7 [1, 2, 3, 4, 5] (.st 8 .nil))) (.ld 7 [1, 2, 3, 4, 5] (.ld 6 [0] (.st 8 .nil)))))))))) [6, 7] (by decide +kernel) ?_
  refine GT_st rfl rfl rfl rfl (V_build (vs := [_, _, _, _, _, _]) rfl rfl zc_23 pl_23 sa_23 rfl) ?_
  refine GT_st rfl rfl rfl rfl (V_loadN (vs := [_, _]) rfl rfl ag_39 sz_39 rfl (CellsAt.item rfl)) ?_
  refine GT_st rfl rfl rfl rfl (V_loadN (vs := [_, _]) rfl rfl ag_39 sz_39 rfl (CellsAt.item rfl)) ?_
  refine GT_st rfl rfl rfl rfl (V_loadN (vs := [_, _]) rfl rfl ag_39 sz_39 rfl (CellsAt.item rfl)) ?_
  refine GT_st rfl rfl rfl rfl (V_loadN (vs := [_, _]) rfl rfl ag_39 sz_39 rfl (CellsAt.item rfl)) ?_
  refine GT_st rfl rfl rfl rfl (V_loadN (vs := [_, _]) rfl rfl ag_39 sz_39 rfl (CellsAt.item rfl)) ?_
  refine GT_br ?_ ?_
  · skip
    refine GT_buildSlice (z := [_, _, _, _, _, _, _, _, _, _]) rfl rfl rfl rfl rfl Try.underlying24 zc_39 sz_39 (by decide) rfl rfl (fun _ => GR_cons rfl rfl rfl rfl (V_build (vs := [_, _, _, _, _, _]) rfl rfl zc_23 pl_23 sa_23 rfl) (GR_nil)) (fun b12 => ?_)
    refine GT_store (vs := [_, _, _, _, _, _]) (l' := [_, _, _, _, _, _]) rfl rfl rfl rfl rfl rfl rfl sz_23 rfl rfl (Nat.le_of_ble_eq_true rfl) rfl (GR_cons rfl rfl rfl rfl (V_loadN (vs := [_, _]) rfl rfl ag_39 sz_39 rfl (CellsAt.item rfl)) (GR_cons rfl rfl rfl rfl (V_loadN (vs := [_, _]) rfl rfl ag_39 sz_39 rfl (CellsAt.item rfl)) (GR_cons rfl rfl rfl rfl (V_loadN (vs := [_, _]) rfl rfl ag_39 sz_39 rfl (CellsAt.item rfl)) (GR_cons rfl rfl rfl rfl (V_loadN (vs := [_, _]) rfl rfl ag_39 sz_39 rfl (CellsAt.item rfl)) (GR_cons rfl rfl rfl rfl (V_loadN (vs := [_, _]) rfl rfl ag_39 sz_39 rfl (CellsAt.item rfl)) (GR_nil)))))) ?_
    refine GT_st rfl rfl rfl rfl (V_assign rfl rfl) ?_
    refine GT_nil ?_
    refine GE_ret Try.func37 ⟨_, _, ⟨_, rfl, fun w m => run_loadVar_agg (vs := [_, _, _, _, _, _]) ag_23 sz_23 rfl (fun j v hj => CellsAt.item rfl j v hj w m)⟩, rfl, rfl⟩ (fun w hw => ⟨(b12, [(b12, blk [I (-20), I 20, I (-20), I 20, I (-20), I 20, I (-20), I 50, I (-20), I 20] 39)]), Own.lit rfl rfl (by decide), rfl, hw.chunk⟩)
    skip
  · skip
    refine GT_store (vs := [_, _, _, _, _, _]) (l' := [_, _, _, _, _, _]) rfl rfl rfl rfl rfl rfl rfl sz_23 rfl rfl (Nat.le_of_ble_eq_true rfl) rfl (GR_cons rfl rfl rfl rfl (V_loadN (vs := [_, _]) rfl rfl ag_39 sz_39 rfl (CellsAt.item rfl)) (GR_cons rfl rfl rfl rfl (V_loadN (vs := [_, _]) rfl rfl ag_39 sz_39 rfl (CellsAt.item rfl)) (GR_cons rfl rfl rfl rfl (V_loadN (vs := [_, _]) rfl rfl ag_39 sz_39 rfl (CellsAt.item rfl)) (GR_cons rfl rfl rfl rfl (V_loadN (vs := [_, _]) rfl rfl ag_39 sz_39 rfl (CellsAt.item rfl)) (GR_cons rfl rfl rfl rfl (V_loadN (vs := [_, _]) rfl rfl ag_39 sz_39 rfl (CellsAt.item rfl)) (GR_nil)))))) ?_
    refine GT_buildSlice (z := [_, _, _, _, _, _, _, _, _, _]) rfl rfl rfl rfl rfl Try.underlying24 zc_39 sz_39 (by decide) rfl rfl (fun _ => GR_cons rfl rfl rfl rfl (V_build (vs := [_, _, _, _, _, _]) rfl rfl zc_23 pl_23 sa_23 rfl) (GR_nil)) (fun b12 => ?_)
    refine GT_st rfl rfl rfl rfl (V_assign rfl rfl) ?_
    refine GT_nil ?_
    refine GE_ret Try.func37 ⟨_, _, ⟨_, rfl, fun w m => run_loadVar_agg (vs := [_, _, _, _, _, _]) ag_23 sz_23 rfl (fun j v hj => CellsAt.item rfl j v hj w m)⟩, rfl, rfl⟩ (fun w hw => ⟨(b12, [(b12, blk [I (-20), I 20, I (-20), I 20, I (-20), I 20, I (-20), I 50, I (-20), I 20] 39)]), Own.lit rfl rfl (by decide), rfl, hw.chunk⟩)
    skip
end Go.Proofs.Ytacmnmcaeflflaa
