/- lathe: edges, ways and circles, walked -/
import Derived.Test.YtacmnmcaeflflaaLa1
import Derived.Test.YtacmnmcaeflflaaLaT
namespace Go.Proofs.Ytacmnmcaeflflaa
open Go.Sx Go.Proofs

/-- block bs is the side of a groove on a blank -/
def sideCells (b : Blank) (A : Option Addr) (l : List Pt) (c : Nat) : List Value := [I b.per, I b.rim, I b.core, I b.land, I b.slow, I b.fast, .slice A l.length c, I b.per]
def SideAt (w : World) (bs : Nat) (b : Blank) (A : Option Addr) (l : List Pt) (c : Nat) : Prop := w.heap[bs]? = some (blk (sideCells b A l c) 92)
theorem SideAt.cell {w : World} {bs c o : Nat} {b : Blank} {A : Option Addr} {l : List Pt} {v : Value} (h : SideAt w bs b A l c) (hv : (sideCells b A l c)[o]? = some v) : w.cell? ⟨bs, o, none⟩ = some v := by
  unfold SideAt at h
  simp [World.cell?, h, hv]
theorem SideAt.lt {w : World} {bs c : Nat} {b : Blank} {A : Option Addr} {l : List Pt} (h : SideAt w bs b A l c) : bs < w.heap.size := by
  unfold SideAt at h
  exact (Array.getElem?_eq_some_iff.1 h).1
theorem SideAt.sh {w0 w : World} {bs c : Nat} {b : Blank} {A : Option Addr} {l : List Pt} {H : Items} (h : SideAt w0 bs b A l c) (m : SH w0 none' H w) : SideAt w bs b A l c := by
  unfold SideAt
  rw [m.old bs h.lt (fun e => e)]; exact h

set_option maxRecDepth 10000 in
theorem C_lathe_edge {b : Blank} {A : Option Addr} {l : List Pt} {c bs : Nat} {rule samp : Int} {w : World} (hs : SideAt w bs b A l c) (hp : RdL w 2 ePt A l) (hb : b.ok = true) (hl : l.length ≤ 4096) (hpt : l.all ptOk = true) :
    Con0 Try.prog 57 [ptr bs 0, I rule, I samp] w (.tuple #[.agg (eEdge (edgeOf b l rule samp).1).toArray, .bool (edgeOf b l rule samp).2]) := by
  rw [Blank.ok_iff] at hb
  have hpt' : ∀ q, q < l.length → (-4194304 ≤ (l.getD q default).inn ∧ (l.getD q default).inn ≤ 4194304) ∧ (-4194304 ≤ (l.getD q default).out ∧ (l.getD q default).out ≤ 4194304) := by
    intro q hq
    have := List.all_eq_true.1 hpt _ (List.getElem_mem hq)
    simpa [ptOk, betw_iff, List.getD, hq] using this
  refine Ret_of (vs := [_, _, _]) hm none' Try.func57 rfl Try.ntmps57 rfl ?_
  dsimp only [slotsOf]
  refine GE_seq ?_
  refine GE_plain (.ld 0 [] (.st 1 .nil)) rfl ?_
  refine GT_alloc rfl rfl rfl rfl rfl zc_97 (fun _ => GR_nil) (fun b6 => ?_)
  refine GT_st rfl rfl rfl rfl (V_assign rfl rfl) ?_
  refine GT_nil ?_
  refine GE_seq ?_
  refine GE_plain (.st 0 (.st 1 (.st 2 (.st 3 (.st 4 (.st 5 (.ld 6 [] (.ld 7 [] .nil)))))))) rfl ?_
  refine GT_st rfl rfl rfl rfl (V_move rfl rfl) ?_
  refine GT_st rfl rfl rfl rfl (V_move rfl rfl) ?_
  refine GT_st rfl rfl rfl rfl (V_build (vs := [_, _]) rfl rfl zc_62 pl_62 sa_62 rfl) ?_
  refine GT_st rfl rfl rfl rfl (V_move rfl rfl) ?_
  refine GT_st rfl rfl rfl rfl (V_move rfl rfl) ?_
  refine GT_st rfl rfl rfl rfl (V_build (vs := [_, _, _, _, _]) rfl rfl zc_97 pl_97 sa_97 rfl) ?_
  refine GT_alloc rfl rfl rfl rfl rfl zc_97 (fun _ => GR_nil) (fun b8 => ?_)
  refine GT_store (vs := [_, _, _, _, _]) (l' := [_, _, _, _, _]) rfl rfl rfl rfl rfl rfl rfl sz_97 rfl rfl (Nat.le_of_ble_eq_true rfl) rfl (GR_nil) ?_
  refine GT_nil ?_
  refine GE_seq ?_
  refine GE_seq ?_
  refine GE_slots (L' := [(0, _), (1, _), (2, _), (6, _), (8, _)]) ⟨rfl, rfl, rfl, rfl, rfl, trivial⟩ ?_
  refine GE_plain (.st 0 (.st 1 (.st 2 (.st 3 (.st 4 (.st 5 (.st 6 (.st 7 (.st 8 (.st 9 (.st 10 .nil))))))))))) rfl ?_
  refine GT_st rfl rfl rfl rfl (V_move rfl rfl) ?_
  refine GT_st rfl rfl rfl rfl (V_lss rfl rfl rfl) ?_
  refine GT_st rfl rfl rfl rfl (V_move rfl rfl) ?_
  first | refine GT_splitNot (d := 18) rfl (fun h1 => ?_) (fun h1 => ?_) | refine GT_split (d := 18) rfl (fun h1 => ?_) (fun h1 => ?_) | refine GT_splitNotB (d := 18) rfl (fun h1 => ?_) (fun h1 => ?_) | refine GT_splitB (d := 18) rfl (fun h1 => ?_) (fun h1 => ?_)
  · skip
    refine GT_skip rfl rfl rfl rfl rfl (by decide) rfl rfl ?_
    refine GT_skip rfl rfl rfl rfl rfl (by decide) rfl rfl ?_
    refine GT_skip rfl rfl rfl rfl rfl (by decide) rfl rfl ?_
    refine GT_skip rfl rfl rfl rfl rfl (by decide) rfl rfl ?_
    refine GT_skip rfl rfl rfl rfl rfl (by decide) rfl rfl ?_
    refine GT_skip rfl rfl rfl rfl rfl (by decide) rfl rfl ?_
    refine GT_skip rfl rfl rfl rfl rfl (by decide) rfl rfl ?_
    refine GT_st rfl rfl rfl rfl (V_pick_t rfl rfl rfl) ?_
    refine GT_nil ?_
    refine GE_cond_t rfl ?_
    refine GE_seq ?_
    refine GE_slots (L' := [(6, _), (8, _)]) ⟨rfl, rfl, trivial⟩ ?_
    refine GE_plain (.st 0 (.ld 1 [] (.st 2 .nil))) rfl ?_
    refine GT_st rfl rfl rfl rfl (V_loadN (vs := [_, _, _, _, _]) rfl rfl ag_97 sz_97 rfl (CellsAt.item rfl)) ?_
    refine GT_store (vs := [_, _, _, _, _]) (l' := [_, _, _, _, _]) rfl rfl rfl rfl rfl rfl rfl sz_97 rfl rfl (Nat.le_of_ble_eq_true rfl) rfl (GR_nil) ?_
    refine GT_st rfl rfl rfl rfl (V_assign rfl rfl) ?_
    refine GT_nil ?_
    refine GE_ret Try.func57 ⟨_, _, ⟨_, rfl, fun w m => run_loadVar_agg (vs := [_, _, _, _, _]) ag_97 sz_97 rfl (fun j v hj => CellsAt.item rfl j v hj w m)⟩, rfl, rfl⟩ (fun w hw => ⟨?_, hw.nil⟩)
    unfold edgeOf; (repeat' split) <;> first | rfl | omega
  · skip
    refine GT_st_g rfl rfl rfl rfl rfl rfl rfl (V_move rfl rfl) ?_
    refine GT_st_g rfl rfl rfl rfl rfl rfl rfl (V_move rfl rfl) ?_
    first | refine GT_st_g rfl rfl rfl rfl rfl rfl rfl (V_nilCheck rfl rfl) ?_ | refine GT_st_g rfl rfl rfl rfl rfl rfl rfl (V_nilCheck_func rfl rfl) ?_ | refine GT_st_g rfl rfl rfl rfl rfl rfl rfl (V_nilCheck_yield rfl rfl) ?_
    first | refine GT_st_g rfl rfl rfl rfl rfl rfl rfl (V_field rfl rfl fo_92_1) ?_ | refine GT_st_g rfl rfl rfl rfl rfl rfl rfl (V_fieldA rfl rfl fo_92_1) ?_
    first | refine GT_st_g rfl rfl rfl rfl rfl rfl rfl (V_load rfl rfl ag_24 (CellAt.item rfl)) ?_ | refine GT_st_g rfl rfl rfl rfl rfl rfl rfl (V_load rfl rfl ag_24 (CellAt.old (hs.cell rfl) (noM _))) ?_
    refine GT_st_g rfl rfl rfl rfl rfl rfl rfl (V_len rfl Try.underlying24 rfl) ?_
    refine GT_st_g rfl rfl rfl rfl rfl rfl rfl (V_geq rfl rfl rfl) ?_
    refine GT_st rfl rfl rfl rfl (V_pick_f rfl rfl rfl) ?_
    refine GT_nil ?_
    first | refine GE_condNot rfl (fun h2 => ?_) (fun h2 => ?_) | refine GE_cond rfl (fun h2 => ?_) (fun h2 => ?_) | refine GE_condNotB rfl (fun h2 => ?_) (fun h2 => ?_) | refine GE_condB rfl (fun h2 => ?_) (fun h2 => ?_)
    · skip
      refine GE_seq ?_
      refine GE_slots (L' := [(6, _), (8, _)]) ⟨rfl, rfl, trivial⟩ ?_
      refine GE_plain (.st 0 (.ld 1 [] (.st 2 .nil))) rfl ?_
      refine GT_st rfl rfl rfl rfl (V_loadN (vs := [_, _, _, _, _]) rfl rfl ag_97 sz_97 rfl (CellsAt.item rfl)) ?_
      refine GT_store (vs := [_, _, _, _, _]) (l' := [_, _, _, _, _]) rfl rfl rfl rfl rfl rfl rfl sz_97 rfl rfl (Nat.le_of_ble_eq_true rfl) rfl (GR_nil) ?_
      refine GT_st rfl rfl rfl rfl (V_assign rfl rfl) ?_
      refine GT_nil ?_
      refine GE_ret Try.func57 ⟨_, _, ⟨_, rfl, fun w m => run_loadVar_agg (vs := [_, _, _, _, _]) ag_97 sz_97 rfl (fun j v hj => CellsAt.item rfl j v hj w m)⟩, rfl, rfl⟩ (fun w hw => ⟨?_, hw.nil⟩)
      unfold edgeOf; (repeat' split) <;> first | rfl | omega
    · have hk1 := hpt' samp.toNat (by omega)
      refine GE_skip ?_
      refine GE_seq ?_
      refine GE_slots (L' := [(0, _), (1, _), (2, _), (6, _), (8, _)]) ⟨rfl, rfl, rfl, rfl, rfl, trivial⟩ ?_
      refine GE_plain (.st 0 (.st 1 (.st 2 (.st 3 (.st 4 (.st 5 (.st 6 (.ld 7 [] (.ld 8 [] .nil))))))))) rfl ?_
      refine GT_st rfl rfl rfl rfl (V_move rfl rfl) ?_
      first | refine GT_st rfl rfl rfl rfl (V_nilCheck rfl rfl) ?_ | refine GT_st rfl rfl rfl rfl (V_nilCheck_func rfl rfl) ?_ | refine GT_st rfl rfl rfl rfl (V_nilCheck_yield rfl rfl) ?_
      first | refine GT_st rfl rfl rfl rfl (V_field rfl rfl fo_92_1) ?_ | refine GT_st rfl rfl rfl rfl (V_fieldA rfl rfl fo_92_1) ?_
      first | refine GT_st rfl rfl rfl rfl (V_load rfl rfl ag_24 (CellAt.item rfl)) ?_ | refine GT_st rfl rfl rfl rfl (V_load rfl rfl ag_24 (CellAt.old (hs.cell rfl) (noM _))) ?_
      refine GT_st rfl rfl rfl rfl (V_move rfl rfl) ?_
      refine GT_st rfl rfl rfl rfl (V_index rfl rfl rfl Try.underlying24 sz_39 (k := samp.toNat) (by omega) (by omega) (hp.isSome (k := samp.toNat) (by omega))) ?_
      refine GT_st rfl rfl rfl rfl (V_loadN (vs := [_, _]) rfl rfl ag_39 sz_39 rfl (hp.ats noM (by omega))) ?_
      refine GT_alloc rfl rfl rfl rfl rfl zc_39 (fun _ => GR_nil) (fun b9 => ?_)
      refine GT_store (vs := [_, _]) (l' := [_, _]) rfl rfl rfl rfl rfl rfl rfl sz_39 rfl rfl (Nat.le_of_ble_eq_true rfl) rfl (GR_nil) ?_
      refine GT_nil ?_
      refine GE_seq ?_
      refine GE_seq ?_
      refine GE_slots (L' := [(0, _), (1, _), (2, _), (6, _), (8, _), (9, _)]) ⟨rfl, rfl, rfl, rfl, rfl, rfl, trivial⟩ ?_
      refine GE_plain (.st 0 .nil) rfl ?_
      refine GT_st rfl rfl rfl rfl (V_move rfl rfl) ?_
      refine GT_nil ?_
      refine GE_block ?_
      refine GE_seq ?_
      refine GE_plain (.st 0 (.st 1 .nil)) rfl ?_
      refine GT_st rfl rfl rfl rfl (V_eql rfl rfl rfl) ?_
      refine GT_st rfl rfl rfl rfl (V_assign rfl rfl) ?_
      refine GT_nil ?_
      first | refine GE_condNot rfl (fun h1 => ?_) (fun h1 => ?_) | refine GE_cond rfl (fun h1 => ?_) (fun h1 => ?_) | refine GE_condNotB rfl (fun h1 => ?_) (fun h1 => ?_) | refine GE_condB rfl (fun h1 => ?_) (fun h1 => ?_)
      · skip
        refine GE_slots (L' := [(0, _), (6, _), (8, _), (9, _)]) ⟨rfl, rfl, rfl, rfl, trivial⟩ ?_
        refine GE_drawn (.st 0 (.st 1 (.st 2 (.st 3 (.st 4 (.st 5 (.st 6 (.st 7 (.st 8 (.ld 9 [0, 1, 2, 3, 4, 5, 6, 7] (.st 10 (.ld 11 [] .nil)))))))))))) [9, 11] (by decide +kernel) ?_
        refine GT_st rfl rfl rfl rfl (V_move rfl rfl) ?_
        first | refine GT_st rfl rfl rfl rfl (V_nilCheck rfl rfl) ?_ | refine GT_st rfl rfl rfl rfl (V_nilCheck_func rfl rfl) ?_ | refine GT_st rfl rfl rfl rfl (V_nilCheck_yield rfl rfl) ?_
        first | refine GT_st rfl rfl rfl rfl (V_field rfl rfl fo_92_0) ?_ | refine GT_st rfl rfl rfl rfl (V_fieldA rfl rfl fo_92_0) ?_
        first | refine GT_st rfl rfl rfl rfl (V_field rfl rfl fo_23_1) ?_ | refine GT_st rfl rfl rfl rfl (V_fieldA rfl rfl fo_23_1) ?_
        first | refine GT_st rfl rfl rfl rfl (V_load rfl rfl ag_2 (CellAt.item rfl)) ?_ | refine GT_st rfl rfl rfl rfl (V_load rfl rfl ag_2 (CellAt.old (hs.cell rfl) (noM _))) ?_
        first | refine GT_st rfl rfl rfl rfl (V_field rfl rfl fo_39_1) ?_ | refine GT_st rfl rfl rfl rfl (V_fieldA rfl rfl fo_39_1) ?_
        first | refine GT_st rfl rfl rfl rfl (V_load rfl rfl ag_2 (CellAt.item rfl)) ?_ | refine GT_st rfl rfl rfl rfl (V_load rfl rfl ag_2 (CellAt.old (hs.cell rfl) (noM _))) ?_
        refine GT_st rfl rfl rfl rfl (V_sub rfl rfl rfl (wrap_i64 (by omega))) ?_
        first | refine GT_st rfl rfl rfl rfl (V_field rfl rfl fo_97_1) ?_ | refine GT_st rfl rfl rfl rfl (V_fieldA rfl rfl fo_97_1) ?_
        refine GT_store (vs := [_]) (l' := [_, _, _, _, _]) rfl rfl rfl rfl rfl rfl rfl sz_3 rfl rfl (Nat.le_of_ble_eq_true rfl) rfl (GR_cons rfl rfl rfl rfl (V_move rfl rfl) (GR_cons rfl rfl rfl rfl ((by first | exact V_nilCheck rfl rfl | exact V_nilCheck_func rfl rfl | exact V_nilCheck_yield rfl rfl)) (GR_cons rfl rfl rfl rfl ((by first | exact V_field rfl rfl fo_92_0 | exact V_fieldA rfl rfl fo_92_0)) (GR_cons rfl rfl rfl rfl ((by first | exact V_field rfl rfl fo_23_1 | exact V_fieldA rfl rfl fo_23_1)) (GR_cons rfl rfl rfl rfl ((by first | exact V_load rfl rfl ag_2 (CellAt.item rfl) | exact V_load rfl rfl ag_2 (CellAt.old (hs.cell rfl) (noM _)))) (GR_cons rfl rfl rfl rfl ((by first | exact V_field rfl rfl fo_39_1 | exact V_fieldA rfl rfl fo_39_1)) (GR_cons rfl rfl rfl rfl ((by first | exact V_load rfl rfl ag_2 (CellAt.item rfl) | exact V_load rfl rfl ag_2 (CellAt.old (hs.cell rfl) (noM _)))) (GR_cons rfl rfl rfl rfl (V_sub rfl rfl rfl (wrap_i64 (by omega))) (GR_nil))))))))) ?_
        first | refine GT_st rfl rfl rfl rfl (V_field rfl rfl fo_97_3) ?_ | refine GT_st rfl rfl rfl rfl (V_fieldA rfl rfl fo_97_3) ?_
        refine GT_store (vs := [_]) (l' := [_, _, _, _, _]) rfl rfl rfl rfl rfl rfl rfl sz_2 rfl rfl (Nat.le_of_ble_eq_true rfl) rfl (GR_nil) ?_
        refine GT_nil ?_
        refine GE_inBlock ?_
        refine GE_seq ?_
        refine GE_slots (L' := [(6, _), (8, _)]) ⟨rfl, rfl, trivial⟩ ?_
        refine GE_plain (.st 0 (.ld 1 [] (.st 2 .nil))) rfl ?_
        refine GT_st rfl rfl rfl rfl (V_loadN (vs := [_, _, _, _, _]) rfl rfl ag_97 sz_97 rfl (CellsAt.item rfl)) ?_
        refine GT_store (vs := [_, _, _, _, _]) (l' := [_, _, _, _, _]) rfl rfl rfl rfl rfl rfl rfl sz_97 rfl rfl (Nat.le_of_ble_eq_true rfl) rfl (GR_nil) ?_
        refine GT_st rfl rfl rfl rfl (V_assign rfl rfl) ?_
        refine GT_nil ?_
        refine GE_ret Try.func57 ⟨_, _, ⟨_, rfl, fun w m => run_loadVar_agg (vs := [_, _, _, _, _]) ag_97 sz_97 rfl (fun j v hj => CellsAt.item rfl j v hj w m)⟩, rfl, rfl⟩ (fun w hw => ⟨?_, hw.nil⟩)
        unfold edgeOf; (repeat' split) <;> first | rfl | omega
      · skip
        refine GE_seq ?_
        refine GE_plain (.st 0 (.st 1 .nil)) rfl ?_
        refine GT_st rfl rfl rfl rfl (V_eql rfl rfl rfl) ?_
        refine GT_st rfl rfl rfl rfl (V_assign rfl rfl) ?_
        refine GT_nil ?_
        first | refine GE_condNot rfl (fun h2 => ?_) (fun h2 => ?_) | refine GE_cond rfl (fun h2 => ?_) (fun h2 => ?_) | refine GE_condNotB rfl (fun h2 => ?_) (fun h2 => ?_) | refine GE_condB rfl (fun h2 => ?_) (fun h2 => ?_)
        · skip
          refine GE_slots (L' := [(0, _), (6, _), (8, _), (9, _)]) ⟨rfl, rfl, rfl, rfl, trivial⟩ ?_
          refine GE_drawn (.st 0 (.st 1 (.st 2 (.st 3 (.st 4 (.st 5 (.st 6 (.st 7 (.st 8 (.ld 9 [0, 1, 2, 3, 4, 5, 6, 7] (.st 10 (.ld 11 [] .nil)))))))))))) [9, 11] (by decide +kernel) ?_
          first | refine GT_st rfl rfl rfl rfl (V_field rfl rfl fo_39_0) ?_ | refine GT_st rfl rfl rfl rfl (V_fieldA rfl rfl fo_39_0) ?_
          first | refine GT_st rfl rfl rfl rfl (V_load rfl rfl ag_2 (CellAt.item rfl)) ?_ | refine GT_st rfl rfl rfl rfl (V_load rfl rfl ag_2 (CellAt.old (hs.cell rfl) (noM _))) ?_
          refine GT_st rfl rfl rfl rfl (V_move rfl rfl) ?_
          first | refine GT_st rfl rfl rfl rfl (V_nilCheck rfl rfl) ?_ | refine GT_st rfl rfl rfl rfl (V_nilCheck_func rfl rfl) ?_ | refine GT_st rfl rfl rfl rfl (V_nilCheck_yield rfl rfl) ?_
          first | refine GT_st rfl rfl rfl rfl (V_field rfl rfl fo_92_0) ?_ | refine GT_st rfl rfl rfl rfl (V_fieldA rfl rfl fo_92_0) ?_
          first | refine GT_st rfl rfl rfl rfl (V_field rfl rfl fo_23_2) ?_ | refine GT_st rfl rfl rfl rfl (V_fieldA rfl rfl fo_23_2) ?_
          first | refine GT_st rfl rfl rfl rfl (V_load rfl rfl ag_2 (CellAt.item rfl)) ?_ | refine GT_st rfl rfl rfl rfl (V_load rfl rfl ag_2 (CellAt.old (hs.cell rfl) (noM _))) ?_
          refine GT_st rfl rfl rfl rfl (V_sub rfl rfl rfl (wrap_i64 (by omega))) ?_
          first | refine GT_st rfl rfl rfl rfl (V_field rfl rfl fo_97_2) ?_ | refine GT_st rfl rfl rfl rfl (V_fieldA rfl rfl fo_97_2) ?_
          refine GT_store (vs := [_]) (l' := [_, _, _, _, _]) rfl rfl rfl rfl rfl rfl rfl sz_3 rfl rfl (Nat.le_of_ble_eq_true rfl) rfl (GR_cons rfl rfl rfl rfl ((by first | exact V_field rfl rfl fo_39_0 | exact V_fieldA rfl rfl fo_39_0)) (GR_cons rfl rfl rfl rfl ((by first | exact V_load rfl rfl ag_2 (CellAt.item rfl) | exact V_load rfl rfl ag_2 (CellAt.old (hs.cell rfl) (noM _)))) (GR_cons rfl rfl rfl rfl (V_move rfl rfl) (GR_cons rfl rfl rfl rfl ((by first | exact V_nilCheck rfl rfl | exact V_nilCheck_func rfl rfl | exact V_nilCheck_yield rfl rfl)) (GR_cons rfl rfl rfl rfl ((by first | exact V_field rfl rfl fo_92_0 | exact V_fieldA rfl rfl fo_92_0)) (GR_cons rfl rfl rfl rfl ((by first | exact V_field rfl rfl fo_23_2 | exact V_fieldA rfl rfl fo_23_2)) (GR_cons rfl rfl rfl rfl ((by first | exact V_load rfl rfl ag_2 (CellAt.item rfl) | exact V_load rfl rfl ag_2 (CellAt.old (hs.cell rfl) (noM _)))) (GR_cons rfl rfl rfl rfl (V_sub rfl rfl rfl (wrap_i64 (by omega))) (GR_nil))))))))) ?_
          first | refine GT_st rfl rfl rfl rfl (V_field rfl rfl fo_97_3) ?_ | refine GT_st rfl rfl rfl rfl (V_fieldA rfl rfl fo_97_3) ?_
          refine GT_store (vs := [_]) (l' := [_, _, _, _, _]) rfl rfl rfl rfl rfl rfl rfl sz_2 rfl rfl (Nat.le_of_ble_eq_true rfl) rfl (GR_nil) ?_
          refine GT_nil ?_
          refine GE_inBlock ?_
          refine GE_seq ?_
          refine GE_slots (L' := [(6, _), (8, _)]) ⟨rfl, rfl, trivial⟩ ?_
          refine GE_plain (.st 0 (.ld 1 [] (.st 2 .nil))) rfl ?_
          refine GT_st rfl rfl rfl rfl (V_loadN (vs := [_, _, _, _, _]) rfl rfl ag_97 sz_97 rfl (CellsAt.item rfl)) ?_
          refine GT_store (vs := [_, _, _, _, _]) (l' := [_, _, _, _, _]) rfl rfl rfl rfl rfl rfl rfl sz_97 rfl rfl (Nat.le_of_ble_eq_true rfl) rfl (GR_nil) ?_
          refine GT_st rfl rfl rfl rfl (V_assign rfl rfl) ?_
          refine GT_nil ?_
          refine GE_ret Try.func57 ⟨_, _, ⟨_, rfl, fun w m => run_loadVar_agg (vs := [_, _, _, _, _]) ag_97 sz_97 rfl (fun j v hj => CellsAt.item rfl j v hj w m)⟩, rfl, rfl⟩ (fun w hw => ⟨?_, hw.nil⟩)
          unfold edgeOf; (repeat' split) <;> first | rfl | omega
        · skip
          refine GE_seq ?_
          refine GE_slots (L' := [(0, _), (2, _), (6, _), (8, _), (9, _), (35, _)]) ⟨rfl, rfl, rfl, rfl, rfl, rfl, trivial⟩ ?_
          refine GE_plain (.st 0 (.st 1 .nil)) rfl ?_
          refine GT_st rfl rfl rfl rfl (V_eql rfl rfl rfl) ?_
          refine GT_st rfl rfl rfl rfl (V_assign rfl rfl) ?_
          refine GT_nil ?_
          first | refine GE_condNot rfl (fun h3 => ?_) (fun h3 => ?_) | refine GE_cond rfl (fun h3 => ?_) (fun h3 => ?_) | refine GE_condNotB rfl (fun h3 => ?_) (fun h3 => ?_) | refine GE_condB rfl (fun h3 => ?_) (fun h3 => ?_)
          · skip
            refine GE_seq ?_
            refine GE_slots (L' := [(0, _), (2, _), (6, _), (8, _)]) ⟨rfl, rfl, rfl, rfl, trivial⟩ ?_
            refine GE_drawn (.st 0 (.st 1 (.st 2 (.st 3 (.st 4 (.st 5 (.st 6 (.st 7 (.st 8 (.ld 9 [2, 3, 4, 5, 6, 7] (.st 10 (.ld 11 [] .nil)))))))))))) [9, 11] (by decide +kernel) ?_
            refine GT_st rfl rfl rfl rfl (V_move rfl rfl) ?_
            refine GT_st rfl rfl rfl rfl (V_sub rfl rfl rfl (wrap_i64 (by omega))) ?_
            refine GT_st rfl rfl rfl rfl (V_move rfl rfl) ?_
            first | refine GT_st rfl rfl rfl rfl (V_nilCheck rfl rfl) ?_ | refine GT_st rfl rfl rfl rfl (V_nilCheck_func rfl rfl) ?_ | refine GT_st rfl rfl rfl rfl (V_nilCheck_yield rfl rfl) ?_
            first | refine GT_st rfl rfl rfl rfl (V_field rfl rfl fo_92_0) ?_ | refine GT_st rfl rfl rfl rfl (V_fieldA rfl rfl fo_92_0) ?_
            first | refine GT_st rfl rfl rfl rfl (V_field rfl rfl fo_23_4) ?_ | refine GT_st rfl rfl rfl rfl (V_fieldA rfl rfl fo_23_4) ?_
            first | refine GT_st rfl rfl rfl rfl (V_load rfl rfl ag_2 (CellAt.item rfl)) ?_ | refine GT_st rfl rfl rfl rfl (V_load rfl rfl ag_2 (CellAt.old (hs.cell rfl) (noM _))) ?_
            refine GT_st rfl rfl rfl rfl (V_neg rfl rfl (wrap_i64 (by omega))) ?_
            first | refine GT_st rfl rfl rfl rfl (V_field rfl rfl fo_97_1) ?_ | refine GT_st rfl rfl rfl rfl (V_fieldA rfl rfl fo_97_1) ?_
            refine GT_store (vs := [_]) (l' := [_, _, _, _, _]) rfl rfl rfl rfl rfl rfl rfl sz_3 rfl rfl (Nat.le_of_ble_eq_true rfl) rfl (GR_cons rfl rfl rfl rfl (V_move rfl rfl) (GR_cons rfl rfl rfl rfl ((by first | exact V_nilCheck rfl rfl | exact V_nilCheck_func rfl rfl | exact V_nilCheck_yield rfl rfl)) (GR_cons rfl rfl rfl rfl ((by first | exact V_field rfl rfl fo_92_0 | exact V_fieldA rfl rfl fo_92_0)) (GR_cons rfl rfl rfl rfl ((by first | exact V_field rfl rfl fo_23_4 | exact V_fieldA rfl rfl fo_23_4)) (GR_cons rfl rfl rfl rfl ((by first | exact V_load rfl rfl ag_2 (CellAt.item rfl) | exact V_load rfl rfl ag_2 (CellAt.old (hs.cell rfl) (noM _)))) (GR_cons rfl rfl rfl rfl (V_neg rfl rfl (wrap_i64 (by omega))) (GR_nil))))))) ?_
            first | refine GT_st rfl rfl rfl rfl (V_field rfl rfl fo_97_3) ?_ | refine GT_st rfl rfl rfl rfl (V_fieldA rfl rfl fo_97_3) ?_
            refine GT_store (vs := [_]) (l' := [_, _, _, _, _]) rfl rfl rfl rfl rfl rfl rfl sz_2 rfl rfl (Nat.le_of_ble_eq_true rfl) rfl (GR_nil) ?_
            refine GT_nil ?_
            refine GE_seq ?_
            refine GE_slots (L' := [(2, _), (6, _), (8, _)]) ⟨rfl, rfl, rfl, trivial⟩ ?_
            refine GE_plain (.st 0 (.st 1 (.st 2 (.ld 3 [] (.st 4 .nil))))) rfl ?_
            refine GT_st rfl rfl rfl rfl (V_loadN (vs := [_, _, _, _, _]) rfl rfl ag_97 sz_97 rfl (CellsAt.item rfl)) ?_
            refine GT_st rfl rfl rfl rfl (V_move rfl rfl) ?_
            refine GT_st rfl rfl rfl rfl (V_gtr rfl rfl rfl) ?_
            refine GT_store (vs := [_, _, _, _, _]) (l' := [_, _, _, _, _]) rfl rfl rfl rfl rfl rfl rfl sz_97 rfl rfl (Nat.le_of_ble_eq_true rfl) rfl (GR_nil) ?_
            refine GT_st rfl rfl rfl rfl (V_assign rfl rfl) ?_
            refine GT_nil ?_
            refine GE_ret Try.func57 ⟨_, _, ⟨_, rfl, fun w m => run_loadVar_agg (vs := [_, _, _, _, _]) ag_97 sz_97 rfl (fun j v hj => CellsAt.item rfl j v hj w m)⟩, rfl, rfl⟩ (fun w hw => ⟨?_, hw.nil⟩)
            unfold edgeOf; (repeat' split) <;> first | rfl | omega
          · skip
            refine GE_seq ?_
            refine GE_plain (.st 0 (.st 1 .nil)) rfl ?_
            refine GT_st rfl rfl rfl rfl (V_eql rfl rfl rfl) ?_
            refine GT_st rfl rfl rfl rfl (V_assign rfl rfl) ?_
            refine GT_nil ?_
            first | refine GE_condNot rfl (fun h4 => ?_) (fun h4 => ?_) | refine GE_cond rfl (fun h4 => ?_) (fun h4 => ?_) | refine GE_condNotB rfl (fun h4 => ?_) (fun h4 => ?_) | refine GE_condB rfl (fun h4 => ?_) (fun h4 => ?_)
            · skip
              refine GE_seq ?_
              refine GE_slots (L' := [(0, _), (2, _), (6, _), (8, _)]) ⟨rfl, rfl, rfl, rfl, trivial⟩ ?_
              refine GE_drawn (.st 0 (.st 1 (.st 2 (.st 3 (.st 4 (.st 5 (.st 6 (.st 7 (.ld 8 [2, 3, 4, 5, 6] (.st 9 (.ld 10 [] .nil))))))))))) [8, 10] (by decide +kernel) ?_
              refine GT_st rfl rfl rfl rfl (V_move rfl rfl) ?_
              refine GT_st rfl rfl rfl rfl (V_sub rfl rfl rfl (wrap_i64 (by omega))) ?_
              refine GT_st rfl rfl rfl rfl (V_move rfl rfl) ?_
              first | refine GT_st rfl rfl rfl rfl (V_nilCheck rfl rfl) ?_ | refine GT_st rfl rfl rfl rfl (V_nilCheck_func rfl rfl) ?_ | refine GT_st rfl rfl rfl rfl (V_nilCheck_yield rfl rfl) ?_
              first | refine GT_st rfl rfl rfl rfl (V_field rfl rfl fo_92_0) ?_ | refine GT_st rfl rfl rfl rfl (V_fieldA rfl rfl fo_92_0) ?_
              first | refine GT_st rfl rfl rfl rfl (V_field rfl rfl fo_23_5) ?_ | refine GT_st rfl rfl rfl rfl (V_fieldA rfl rfl fo_23_5) ?_
              first | refine GT_st rfl rfl rfl rfl (V_load rfl rfl ag_2 (CellAt.item rfl)) ?_ | refine GT_st rfl rfl rfl rfl (V_load rfl rfl ag_2 (CellAt.old (hs.cell rfl) (noM _))) ?_
              first | refine GT_st rfl rfl rfl rfl (V_field rfl rfl fo_97_2) ?_ | refine GT_st rfl rfl rfl rfl (V_fieldA rfl rfl fo_97_2) ?_
              refine GT_store (vs := [_]) (l' := [_, _, _, _, _]) rfl rfl rfl rfl rfl rfl rfl sz_3 rfl rfl (Nat.le_of_ble_eq_true rfl) rfl (GR_cons rfl rfl rfl rfl (V_move rfl rfl) (GR_cons rfl rfl rfl rfl ((by first | exact V_nilCheck rfl rfl | exact V_nilCheck_func rfl rfl | exact V_nilCheck_yield rfl rfl)) (GR_cons rfl rfl rfl rfl ((by first | exact V_field rfl rfl fo_92_0 | exact V_fieldA rfl rfl fo_92_0)) (GR_cons rfl rfl rfl rfl ((by first | exact V_field rfl rfl fo_23_5 | exact V_fieldA rfl rfl fo_23_5)) (GR_cons rfl rfl rfl rfl ((by first | exact V_load rfl rfl ag_2 (CellAt.item rfl) | exact V_load rfl rfl ag_2 (CellAt.old (hs.cell rfl) (noM _)))) (GR_nil)))))) ?_
              first | refine GT_st rfl rfl rfl rfl (V_field rfl rfl fo_97_3) ?_ | refine GT_st rfl rfl rfl rfl (V_fieldA rfl rfl fo_97_3) ?_
              refine GT_store (vs := [_]) (l' := [_, _, _, _, _]) rfl rfl rfl rfl rfl rfl rfl sz_2 rfl rfl (Nat.le_of_ble_eq_true rfl) rfl (GR_nil) ?_
              refine GT_nil ?_
              refine GE_seq ?_
              refine GE_slots (L' := [(2, _), (6, _), (8, _)]) ⟨rfl, rfl, rfl, trivial⟩ ?_
              refine GE_plain (.st 0 (.st 1 (.st 2 (.ld 3 [] (.st 4 .nil))))) rfl ?_
              refine GT_st rfl rfl rfl rfl (V_loadN (vs := [_, _, _, _, _]) rfl rfl ag_97 sz_97 rfl (CellsAt.item rfl)) ?_
              refine GT_st rfl rfl rfl rfl (V_move rfl rfl) ?_
              refine GT_st rfl rfl rfl rfl (V_gtr rfl rfl rfl) ?_
              refine GT_store (vs := [_, _, _, _, _]) (l' := [_, _, _, _, _]) rfl rfl rfl rfl rfl rfl rfl sz_97 rfl rfl (Nat.le_of_ble_eq_true rfl) rfl (GR_nil) ?_
              refine GT_st rfl rfl rfl rfl (V_assign rfl rfl) ?_
              refine GT_nil ?_
              refine GE_ret Try.func57 ⟨_, _, ⟨_, rfl, fun w m => run_loadVar_agg (vs := [_, _, _, _, _]) ag_97 sz_97 rfl (fun j v hj => CellsAt.item rfl j v hj w m)⟩, rfl, rfl⟩ (fun w hw => ⟨?_, hw.nil⟩)
              unfold edgeOf; (repeat' split) <;> first | rfl | omega
            · skip
              refine GE_seq ?_
              refine GE_slots (L' := [(0, _), (2, _), (6, _), (8, _), (9, _), (35, _)]) ⟨rfl, rfl, rfl, rfl, rfl, rfl, trivial⟩ ?_
              refine GE_plain (.st 0 (.st 1 .nil)) rfl ?_
              refine GT_st rfl rfl rfl rfl (V_eql rfl rfl rfl) ?_
              refine GT_st rfl rfl rfl rfl (V_assign rfl rfl) ?_
              refine GT_nil ?_
              first | refine GE_condNot rfl (fun h5 => ?_) (fun h5 => ?_) | refine GE_cond rfl (fun h5 => ?_) (fun h5 => ?_) | refine GE_condNotB rfl (fun h5 => ?_) (fun h5 => ?_) | refine GE_condB rfl (fun h5 => ?_) (fun h5 => ?_)
              · skip
                refine GE_seq ?_
                refine GE_seq ?_
                refine GE_plain (.st 0 (.st 1 (.st 2 (.st 3 (.st 4 (.st 5 .nil)))))) rfl ?_
                refine GT_st rfl rfl rfl rfl (V_move rfl rfl) ?_
                refine GT_st rfl rfl rfl rfl (V_move rfl rfl) ?_
                first | refine GT_st rfl rfl rfl rfl (V_nilCheck rfl rfl) ?_ | refine GT_st rfl rfl rfl rfl (V_nilCheck_func rfl rfl) ?_ | refine GT_st rfl rfl rfl rfl (V_nilCheck_yield rfl rfl) ?_
                first | refine GT_st rfl rfl rfl rfl (V_field rfl rfl fo_92_2) ?_ | refine GT_st rfl rfl rfl rfl (V_fieldA rfl rfl fo_92_2) ?_
                first | refine GT_st rfl rfl rfl rfl (V_load rfl rfl ag_3 (CellAt.item rfl)) ?_ | refine GT_st rfl rfl rfl rfl (V_load rfl rfl ag_3 (CellAt.old (hs.cell rfl) (noM _))) ?_
                refine GT_st rfl rfl rfl rfl (V_lss rfl rfl rfl) ?_
                refine GT_nil ?_
                first | refine GE_condNot rfl (fun h9 => ?_) (fun h9 => ?_) | refine GE_cond rfl (fun h9 => ?_) (fun h9 => ?_) | refine GE_condNotB rfl (fun h9 => ?_) (fun h9 => ?_) | refine GE_condB rfl (fun h9 => ?_) (fun h9 => ?_)
                · skip
                  refine GE_seq ?_
                  refine GE_slots (L' := [(6, _), (8, _)]) ⟨rfl, rfl, trivial⟩ ?_
                  refine GE_plain (.st 0 (.ld 1 [] (.st 2 .nil))) rfl ?_
                  refine GT_st rfl rfl rfl rfl (V_loadN (vs := [_, _, _, _, _]) rfl rfl ag_97 sz_97 rfl (CellsAt.item rfl)) ?_
                  refine GT_store (vs := [_, _, _, _, _]) (l' := [_, _, _, _, _]) rfl rfl rfl rfl rfl rfl rfl sz_97 rfl rfl (Nat.le_of_ble_eq_true rfl) rfl (GR_nil) ?_
                  refine GT_st rfl rfl rfl rfl (V_assign rfl rfl) ?_
                  refine GT_nil ?_
                  refine GE_ret Try.func57 ⟨_, _, ⟨_, rfl, fun w m => run_loadVar_agg (vs := [_, _, _, _, _]) ag_97 sz_97 rfl (fun j v hj => CellsAt.item rfl j v hj w m)⟩, rfl, rfl⟩ (fun w hw => ⟨?_, hw.nil⟩)
                  unfold edgeOf; (repeat' split) <;> first | rfl | omega
                · have hk2 := hpt' (samp - b.per).toNat (by omega)
                  refine GE_skip ?_
                  refine GE_slots (L' := [(0, _), (2, _), (6, _), (8, _), (9, _)]) ⟨rfl, rfl, rfl, rfl, rfl, trivial⟩ ?_
                  refine GE_drawn (.st 0 (.st 1 (.st 2 (.st 3 (.st 4 (.st 5 (.st 6 (.st 7 (.st 8 (.st 9 (.st 10 (.st 11 (.st 12 (.st 13 (.st 14 (.st 15 (.st 16 (.st 17 (.st 18 (.st 19 (.st 20 (.st 21 (.st 22 (.st 23 (.st 24 (.st 25 (.st 26 (.st 27 (.st 28 (.ld 29 [6, 7, 8, 9, 10, 11, 12, 13, 14, 15, 16, 17, 18, 19, 20, 21, 22, 23, 24, 25, 26, 27] (.st 30 (.ld 31 [] .nil)))))))))))))))))))))))))))))))) [29, 31] (by decide +kernel) ?_
                  refine GT_st rfl rfl rfl rfl (V_move rfl rfl) ?_
                  refine GT_st rfl rfl rfl rfl (V_move rfl rfl) ?_
                  first | refine GT_st rfl rfl rfl rfl (V_nilCheck rfl rfl) ?_ | refine GT_st rfl rfl rfl rfl (V_nilCheck_func rfl rfl) ?_ | refine GT_st rfl rfl rfl rfl (V_nilCheck_yield rfl rfl) ?_
                  first | refine GT_st rfl rfl rfl rfl (V_field rfl rfl fo_92_2) ?_ | refine GT_st rfl rfl rfl rfl (V_fieldA rfl rfl fo_92_2) ?_
                  first | refine GT_st rfl rfl rfl rfl (V_load rfl rfl ag_3 (CellAt.item rfl)) ?_ | refine GT_st rfl rfl rfl rfl (V_load rfl rfl ag_3 (CellAt.old (hs.cell rfl) (noM _))) ?_
                  refine GT_st rfl rfl rfl rfl (V_sub rfl rfl rfl (wrap_i64 (by omega))) ?_
                  refine GT_st rfl rfl rfl rfl (V_move rfl rfl) ?_
                  first | refine GT_st rfl rfl rfl rfl (V_nilCheck rfl rfl) ?_ | refine GT_st rfl rfl rfl rfl (V_nilCheck_func rfl rfl) ?_ | refine GT_st rfl rfl rfl rfl (V_nilCheck_yield rfl rfl) ?_
                  first | refine GT_st rfl rfl rfl rfl (V_field rfl rfl fo_92_1) ?_ | refine GT_st rfl rfl rfl rfl (V_fieldA rfl rfl fo_92_1) ?_
                  first | refine GT_st rfl rfl rfl rfl (V_load rfl rfl ag_24 (CellAt.item rfl)) ?_ | refine GT_st rfl rfl rfl rfl (V_load rfl rfl ag_24 (CellAt.old (hs.cell rfl) (noM _))) ?_
                  refine GT_st rfl rfl rfl rfl (V_move rfl rfl) ?_
                  refine GT_st rfl rfl rfl rfl (V_move rfl rfl) ?_
                  first | refine GT_st rfl rfl rfl rfl (V_nilCheck rfl rfl) ?_ | refine GT_st rfl rfl rfl rfl (V_nilCheck_func rfl rfl) ?_ | refine GT_st rfl rfl rfl rfl (V_nilCheck_yield rfl rfl) ?_
                  first | refine GT_st rfl rfl rfl rfl (V_field rfl rfl fo_92_2) ?_ | refine GT_st rfl rfl rfl rfl (V_fieldA rfl rfl fo_92_2) ?_
                  first | refine GT_st rfl rfl rfl rfl (V_load rfl rfl ag_3 (CellAt.item rfl)) ?_ | refine GT_st rfl rfl rfl rfl (V_load rfl rfl ag_3 (CellAt.old (hs.cell rfl) (noM _))) ?_
                  refine GT_st rfl rfl rfl rfl (V_sub rfl rfl rfl (wrap_i64 (by omega))) ?_
                  refine GT_st rfl rfl rfl rfl (V_index rfl rfl rfl Try.underlying24 sz_39 (k := (samp - b.per).toNat) (by omega) (by omega) (hp.isSome (k := samp.toNat) (by omega))) ?_
                  first | refine GT_st rfl rfl rfl rfl (V_field rfl rfl fo_39_0) ?_ | refine GT_st rfl rfl rfl rfl (V_fieldA rfl rfl fo_39_0) ?_
                  refine GT_st rfl rfl rfl rfl (V_load rfl rfl ag_2 (hp.at0 noM (by omega) rfl)) ?_
                  first | refine GT_st rfl rfl rfl rfl (V_field rfl rfl fo_39_1) ?_ | refine GT_st rfl rfl rfl rfl (V_fieldA rfl rfl fo_39_1) ?_
                  first | refine GT_st rfl rfl rfl rfl (V_load rfl rfl ag_2 (CellAt.item rfl)) ?_ | refine GT_st rfl rfl rfl rfl (V_load rfl rfl ag_2 (CellAt.old (hs.cell rfl) (noM _))) ?_
                  refine GT_st rfl rfl rfl rfl (V_sub rfl rfl rfl (wrap_i64 (by omega))) ?_
                  refine GT_st rfl rfl rfl rfl (V_move rfl rfl) ?_
                  first | refine GT_st rfl rfl rfl rfl (V_nilCheck rfl rfl) ?_ | refine GT_st rfl rfl rfl rfl (V_nilCheck_func rfl rfl) ?_ | refine GT_st rfl rfl rfl rfl (V_nilCheck_yield rfl rfl) ?_
                  first | refine GT_st rfl rfl rfl rfl (V_field rfl rfl fo_92_0) ?_ | refine GT_st rfl rfl rfl rfl (V_fieldA rfl rfl fo_92_0) ?_
                  first | refine GT_st rfl rfl rfl rfl (V_field rfl rfl fo_23_3) ?_ | refine GT_st rfl rfl rfl rfl (V_fieldA rfl rfl fo_23_3) ?_
                  first | refine GT_st rfl rfl rfl rfl (V_load rfl rfl ag_2 (CellAt.item rfl)) ?_ | refine GT_st rfl rfl rfl rfl (V_load rfl rfl ag_2 (CellAt.old (hs.cell rfl) (noM _))) ?_
                  refine GT_st rfl rfl rfl rfl (V_sub rfl rfl rfl (wrap_i64 (by omega))) ?_
                  first | refine GT_st rfl rfl rfl rfl (V_field rfl rfl fo_97_1) ?_ | refine GT_st rfl rfl rfl rfl (V_fieldA rfl rfl fo_97_1) ?_
                  refine GT_store (vs := [_]) (l' := [_, _, _, _, _]) rfl rfl rfl rfl rfl rfl rfl sz_3 rfl rfl (Nat.le_of_ble_eq_true rfl) rfl (GR_cons rfl rfl rfl rfl (V_move rfl rfl) (GR_cons rfl rfl rfl rfl ((by first | exact V_nilCheck rfl rfl | exact V_nilCheck_func rfl rfl | exact V_nilCheck_yield rfl rfl)) (GR_cons rfl rfl rfl rfl ((by first | exact V_field rfl rfl fo_92_1 | exact V_fieldA rfl rfl fo_92_1)) (GR_cons rfl rfl rfl rfl ((by first | exact V_load rfl rfl ag_24 (CellAt.item rfl) | exact V_load rfl rfl ag_24 (CellAt.old (hs.cell rfl) (noM _)))) (GR_cons rfl rfl rfl rfl (V_move rfl rfl) (GR_cons rfl rfl rfl rfl (V_move rfl rfl) (GR_cons rfl rfl rfl rfl ((by first | exact V_nilCheck rfl rfl | exact V_nilCheck_func rfl rfl | exact V_nilCheck_yield rfl rfl)) (GR_cons rfl rfl rfl rfl ((by first | exact V_field rfl rfl fo_92_2 | exact V_fieldA rfl rfl fo_92_2)) (GR_cons rfl rfl rfl rfl ((by first | exact V_load rfl rfl ag_3 (CellAt.item rfl) | exact V_load rfl rfl ag_3 (CellAt.old (hs.cell rfl) (noM _)))) (GR_cons rfl rfl rfl rfl (V_sub rfl rfl rfl (wrap_i64 (by omega))) (GR_cons rfl rfl rfl rfl (V_index rfl rfl rfl Try.underlying24 sz_39 (k := (samp - b.per).toNat) (by omega) (by omega) (hp.isSome (k := samp.toNat) (by omega))) (GR_cons rfl rfl rfl rfl ((by first | exact V_field rfl rfl fo_39_0 | exact V_fieldA rfl rfl fo_39_0)) (GR_cons rfl rfl rfl rfl (V_load rfl rfl ag_2 (hp.at0 noM (by omega) rfl)) (GR_cons rfl rfl rfl rfl ((by first | exact V_field rfl rfl fo_39_1 | exact V_fieldA rfl rfl fo_39_1)) (GR_cons rfl rfl rfl rfl ((by first | exact V_load rfl rfl ag_2 (CellAt.item rfl) | exact V_load rfl rfl ag_2 (CellAt.old (hs.cell rfl) (noM _)))) (GR_cons rfl rfl rfl rfl (V_sub rfl rfl rfl (wrap_i64 (by omega))) (GR_cons rfl rfl rfl rfl (V_move rfl rfl) (GR_cons rfl rfl rfl rfl ((by first | exact V_nilCheck rfl rfl | exact V_nilCheck_func rfl rfl | exact V_nilCheck_yield rfl rfl)) (GR_cons rfl rfl rfl rfl ((by first | exact V_field rfl rfl fo_92_0 | exact V_fieldA rfl rfl fo_92_0)) (GR_cons rfl rfl rfl rfl ((by first | exact V_field rfl rfl fo_23_3 | exact V_fieldA rfl rfl fo_23_3)) (GR_cons rfl rfl rfl rfl ((by first | exact V_load rfl rfl ag_2 (CellAt.item rfl) | exact V_load rfl rfl ag_2 (CellAt.old (hs.cell rfl) (noM _)))) (GR_cons rfl rfl rfl rfl (V_sub rfl rfl rfl (wrap_i64 (by omega))) (GR_nil))))))))))))))))))))))) ?_
                  first | refine GT_st rfl rfl rfl rfl (V_field rfl rfl fo_97_3) ?_ | refine GT_st rfl rfl rfl rfl (V_fieldA rfl rfl fo_97_3) ?_
                  refine GT_store (vs := [_]) (l' := [_, _, _, _, _]) rfl rfl rfl rfl rfl rfl rfl sz_2 rfl rfl (Nat.le_of_ble_eq_true rfl) rfl (GR_nil) ?_
                  refine GT_nil ?_
                  refine GE_inBlock ?_
                  refine GE_seq ?_
                  refine GE_slots (L' := [(6, _), (8, _)]) ⟨rfl, rfl, trivial⟩ ?_
                  refine GE_plain (.st 0 (.ld 1 [] (.st 2 .nil))) rfl ?_
                  refine GT_st rfl rfl rfl rfl (V_loadN (vs := [_, _, _, _, _]) rfl rfl ag_97 sz_97 rfl (CellsAt.item rfl)) ?_
                  refine GT_store (vs := [_, _, _, _, _]) (l' := [_, _, _, _, _]) rfl rfl rfl rfl rfl rfl rfl sz_97 rfl rfl (Nat.le_of_ble_eq_true rfl) rfl (GR_nil) ?_
                  refine GT_st rfl rfl rfl rfl (V_assign rfl rfl) ?_
                  refine GT_nil ?_
                  refine GE_ret Try.func57 ⟨_, _, ⟨_, rfl, fun w m => run_loadVar_agg (vs := [_, _, _, _, _]) ag_97 sz_97 rfl (fun j v hj => CellsAt.item rfl j v hj w m)⟩, rfl, rfl⟩ (fun w hw => ⟨?_, hw.nil⟩)
                  unfold edgeOf; (repeat' split) <;> first | rfl | omega
              · skip
                refine GE_seq ?_
                refine GE_slots (L' := [(6, _), (8, _)]) ⟨rfl, rfl, trivial⟩ ?_
                refine GE_plain (.st 0 (.ld 1 [] (.st 2 .nil))) rfl ?_
                refine GT_st rfl rfl rfl rfl (V_loadN (vs := [_, _, _, _, _]) rfl rfl ag_97 sz_97 rfl (CellsAt.item rfl)) ?_
                refine GT_store (vs := [_, _, _, _, _]) (l' := [_, _, _, _, _]) rfl rfl rfl rfl rfl rfl rfl sz_97 rfl rfl (Nat.le_of_ble_eq_true rfl) rfl (GR_nil) ?_
                refine GT_st rfl rfl rfl rfl (V_assign rfl rfl) ?_
                refine GT_nil ?_
                refine GE_ret Try.func57 ⟨_, _, ⟨_, rfl, fun w m => run_loadVar_agg (vs := [_, _, _, _, _]) ag_97 sz_97 rfl (fun j v hj => CellsAt.item rfl j v hj w m)⟩, rfl, rfl⟩ (fun w hw => ⟨?_, hw.nil⟩)
                unfold edgeOf; (repeat' split) <;> first | rfl | omega

theorem C_lathe_edges {bs : Nat} {w : World} : Con Try.prog 60 [ptr bs 0] w (fun _ : Nat => True) (fun bb => .func (.func 71) #[] #[ptr bb 0]) (fun bb => [(bb, blk [ptr bs 0] 66)]) := by
  refine Ret_of (vs := [_]) hm none' Try.func60 rfl Try.ntmps60 rfl ?_
  dsimp only [slotsOf]
  refine GE_seq ?_
  refine GE_plain (.ld 0 [] (.st 1 .nil)) rfl ?_
  refine GT_box (z := [_]) rfl rfl rfl rfl rfl rfl rfl (fun _ => GR_nil) (fun b1 => ?_)
  refine GT_st rfl rfl rfl rfl (V_assign rfl rfl) ?_
  refine GT_nil ?_
  refine GE_seq ?_
  refine GE_plain (.st 0 (.st 1 .nil)) rfl ?_
  refine GT_st rfl rfl rfl rfl (V_makeFunc rfl rfl rfl) ?_
  refine GT_st rfl rfl rfl rfl (V_assign rfl rfl) ?_
  refine GT_nil ?_
  refine GE_ret Try.func60 rfl (fun w hw => ⟨b1, trivial, rfl, hw⟩)
  skip

/-- the outer k elements on both sides exchanged -/
def revTo {α : Type} [Inhabited α] (l : List α) (k : Nat) : List α := (List.range l.length).map fun q => if q < k ∨ l.length - k ≤ q then l.getD (l.length - 1 - q) default else l.getD q default
theorem revTo_length {α : Type} [Inhabited α] (l : List α) (k : Nat) : (revTo l k).length = l.length := by simp [revTo]
theorem revTo_getD {α : Type} [Inhabited α] (l : List α) (k q : Nat) (hq : q < l.length) : (revTo l k).getD q default = if q < k ∨ l.length - k ≤ q then l.getD (l.length - 1 - q) default else l.getD q default := by
  simp [revTo, List.getD, hq]
theorem list_ext_getD {α : Type} [Inhabited α] {a b : List α} (hl : a.length = b.length) (h : ∀ q, q < a.length → a.getD q default = b.getD q default) : a = b := by
  apply List.ext_getElem hl
  intro i h1 h2
  have := h i h1
  simpa [List.getD, h1, h2] using this
theorem revTo_zero {α : Type} [Inhabited α] (l : List α) : revTo l 0 = l := by
  apply list_ext_getD (revTo_length l 0)
  intro q hq
  rw [revTo_length] at hq
  rw [revTo_getD _ _ _ hq, if_neg (by omega)]
theorem getD_set {α : Type} [Inhabited α] {l : List α} {i q : Nat} {x : α} (hi : i < l.length) : (l.set i x).getD q default = if i = q then x else l.getD q default := by
  simp only [List.getD, List.getElem?_set]
  split
  · rename_i h; subst h; simp [hi]
  · rfl
theorem revTo_succ {α : Type} [Inhabited α] (l : List α) (k j : Nat) (hj : j + k + 1 = l.length) (hk : k < j) : ((revTo l k).set k ((revTo l k).getD j default)).set j ((revTo l k).getD k default) = revTo l (k + 1) := by
  apply list_ext_getD (by simp [revTo_length])
  intro q hq
  simp only [List.length_set, revTo_length] at hq
  rw [getD_set (by simp [revTo_length]; omega), getD_set (by simp [revTo_length]; omega), revTo_getD _ _ _ hq, revTo_getD _ _ _ hq, revTo_getD l k j (by omega), revTo_getD l k k (by omega)]
  by_cases h1 : j = q
  · subst h1
    rw [if_pos rfl, if_neg (by omega), if_pos (by omega)]
    congr 1; omega
  · rw [if_neg h1]
    by_cases h2 : k = q
    · subst h2
      rw [if_pos rfl, if_neg (by omega), if_pos (by omega)]
      congr 1; omega
    · rw [if_neg h2]
      by_cases h3 : q < k ∨ l.length - k ≤ q
      · rw [if_pos h3, if_pos (by omega)]
      · rw [if_neg h3, if_neg (by omega)]
theorem revTo_end {α : Type} [Inhabited α] (l : List α) (k : Nat) (hk : l.length ≤ 2 * k + 1) : revTo l k = l.reverse := by
  apply list_ext_getD (by simp [revTo_length])
  intro q hq
  rw [revTo_length] at hq
  rw [revTo_getD _ _ _ hq]
  have : l.reverse.getD q default = l.getD (l.length - 1 - q) default := by simp [List.getD, List.getElem?_reverse hq]
  rw [this]
  split
  · rfl
  · congr 1; omega

theorem C_slices_Reverse {l : List Stp} {A : Option Addr} {c : Nat} {I0 : Items} {w : World} {w0 : World} {H H1 : Items} [hch : HChunk I0 H H1] (m : SH w0 none' H w) (hO : Own 2 62 eStp l (.slice A l.length c) I0) (hl : l.length ≤ 1099511627776) :
    Ret Try.prog 72 [.slice A l.length c].toArray w fun v w' => ∃ I', Own 2 62 eStp l.reverse (.slice A l.length c) I' ∧ v = .tuple #[] ∧ SH w0 none' (I' ++ H1) w' := by
  have m' := m.perm hch.perm
  refine Ret_ofH (vs := [_]) hm none' Try.func72 rfl Try.ntmps72 rfl m' ?_
  dsimp only [slotsOf]
  refine GE_seq ?_
  refine GE_plain (.st 0 (.st 1 (.st 2 (.st 3 (.st 4 .nil))))) rfl ?_
  refine GT_st rfl rfl rfl rfl (V_move rfl rfl) ?_
  refine GT_st rfl rfl rfl rfl (V_len rfl Try.underlying56 rfl) ?_
  refine GT_st rfl rfl rfl rfl (V_sub rfl rfl rfl (wrap_i64 (by omega))) ?_
  refine GT_st rfl rfl rfl rfl (V_assign rfl rfl) ?_
  refine GT_st rfl rfl rfl rfl (V_assign rfl rfl) ?_
  refine GT_nil ?_
  refine GE_block ?_
  refine GE_to (GE_loop (ι := Nat × Int × Items) (fun x => l.length - x.1) (fun x => [(0, .slice A l.length c), (2, I x.1), (3, I x.2.1)]) (fun x => x.2.2 ++ H1) (fun x => x.1 ≤ l.length ∧ x.2.1 = (l.length : Int) - 1 - x.1 ∧ Own 2 62 eStp (revTo l x.1) (.slice A l.length c) x.2.2) ?_ (0, _, I0) ?_) ⟨rfl, rfl, rfl, trivial⟩ (HS.chunk HS.all)
  · rintro ⟨k, j, I1⟩ ⟨hk, hj, hO1⟩ ih; dsimp only at hk hj hO1 ih ⊢
    refine GE_seq ?_
    refine GE_seq ?_
    refine GE_plain (.st 0 (.st 1 (.st 2 .nil))) rfl ?_
    refine GT_st rfl rfl rfl rfl (V_move rfl rfl) ?_
    refine GT_st rfl rfl rfl rfl (V_move rfl rfl) ?_
    refine GT_st rfl rfl rfl rfl (V_lss rfl rfl rfl) ?_
    refine GT_nil ?_
    first | refine GE_condNot rfl (fun h1 => ?_) (fun h1 => ?_) | refine GE_cond rfl (fun h1 => ?_) (fun h1 => ?_) | refine GE_condNotB rfl (fun h1 => ?_) (fun h1 => ?_) | refine GE_condB rfl (fun h1 => ?_) (fun h1 => ?_)
    · have hlen := revTo_length l k
      refine GE_skip ?_
      refine GE_seq ?_
      refine GE_block ?_
      refine GE_drawn (.st 0 (.st 1 (.st 2 (.st 3 (.st 4 (.st 5 (.st 6 (.st 7 (.st 8 (.st 9 (.st 10 (.st 11 (.st 12 (.ld 13 [2, 3, 8, 9, 10] (.st 14 (.ld 15 [] .nil)))))))))))))))) [13, 15] (by decide +kernel) ?_
      refine GT_st rfl rfl rfl rfl (V_move rfl rfl) ?_
      refine GT_st rfl rfl rfl rfl (V_move rfl rfl) ?_
      refine GT_st rfl rfl rfl rfl (V_move rfl rfl) ?_
      refine GT_st rfl rfl rfl rfl (V_move rfl rfl) ?_
      refine GT_st rfl rfl rfl rfl (V_move rfl rfl) ?_
      refine GT_st rfl rfl rfl rfl (V_move rfl rfl) ?_
      refine GT_st rfl rfl rfl rfl (V_index rfl rfl rfl Try.underlying56 sz_62 (k := j.toNat) (by omega) (by omega) (hO1.isSome (k := k) (by omega))) ?_
      refine GT_st rfl rfl rfl rfl (V_loadN (vs := [_, _]) rfl rfl ag_62 sz_62 rfl (CellsAt.own hO1 eStp_len (by omega))) ?_
      refine GT_st rfl rfl rfl rfl (V_move rfl rfl) ?_
      refine GT_st rfl rfl rfl rfl (V_move rfl rfl) ?_
      refine GT_st rfl rfl rfl rfl (V_index rfl rfl rfl Try.underlying56 sz_62 rfl (by omega) (hO1.isSome (k := k) (by omega))) ?_
      refine GT_st rfl rfl rfl rfl (V_loadN (vs := [_, _]) rfl rfl ag_62 sz_62 rfl (CellsAt.own hO1 eStp_len (by omega))) ?_
      refine GT_st rfl rfl rfl rfl (V_index rfl rfl rfl Try.underlying56 sz_62 rfl (by omega) (hO1.isSome (k := k) (by omega))) ?_
      refine GT_storeOwn (enc := eStp) (q := k) (xx := (revTo l k).getD j.toNat default) rfl rfl rfl rfl rfl rfl rfl sz_62 hO1 eStp_len eStp_one (by omega) (by decide) (fun _ _ => GR_cons rfl rfl rfl rfl (V_move rfl rfl) (GR_cons rfl rfl rfl rfl (V_move rfl rfl) (GR_cons rfl rfl rfl rfl (V_move rfl rfl) (GR_cons rfl rfl rfl rfl (V_move rfl rfl) (GR_cons rfl rfl rfl rfl (V_index rfl rfl rfl Try.underlying56 sz_62 rfl (by omega) (hO1.isSome (k := k) (by omega))) (GR_nil)))))) (fun I2 hO2 => ?_)
      refine GT_st rfl rfl rfl rfl (V_index rfl rfl rfl Try.underlying56 sz_62 (k := j.toNat) (by omega) (by omega) (hO1.isSome (k := k) (by omega))) ?_
      refine GT_storeOwn (enc := eStp) (q := j.toNat) (xx := (revTo l k).getD k default) rfl rfl rfl rfl rfl rfl rfl sz_62 hO2 eStp_len eStp_one (by simp; omega) (by decide) (fun _ _ => GR_nil) (fun I3 hO3 => ?_)
      refine GT_nil ?_
      refine GE_inBlock ?_
      refine GE_slots (L' := [(0, _), (2, _), (3, _)]) ⟨rfl, rfl, rfl, trivial⟩ ?_
      rw [revTo_succ l k j.toNat (by omega) (by omega)] at hO3
      refine GE_plain (.st 0 (.st 1 (.st 2 (.st 3 (.ld 4 [] (.ld 5 [] .nil)))))) rfl ?_
      refine GT_st rfl rfl rfl rfl (V_move rfl rfl) ?_
      refine GT_st rfl rfl rfl rfl (V_add rfl rfl rfl (wrap_i64 (by omega))) ?_
      refine GT_st rfl rfl rfl rfl (V_move rfl rfl) ?_
      refine GT_st rfl rfl rfl rfl (V_sub rfl rfl rfl (wrap_i64 (by omega))) ?_
      refine GT_ldv rfl rfl rfl rfl rfl (V_assign rfl rfl) (GR_nil) ?_
      refine GT_ldv rfl rfl rfl rfl rfl (V_assign rfl rfl) (GR_nil) ?_
      refine GT_nil ?_
      exact GE_to (ih (k + 1, _, I3) ⟨by dsimp only; omega, by dsimp only; omega, hO3⟩ (by dsimp only; omega)) ⟨rfl, rfl, rfl, trivial⟩ (HS.chunk HS.all)
    · have he := revTo_end l k (by omega)
      refine GE_exit rfl ?_
      refine GE_end Try.func72 rfl (fun w hw => ?_)
      exact ⟨I1, by rw [← he]; exact hO1, rfl, hw⟩
  · exact ⟨Nat.zero_le _, by simp, by rw [revTo_zero]; exact hO⟩
end Go.Proofs.Ytacmnmcaeflflaa
