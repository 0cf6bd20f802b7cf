/- Texts of this proof, one behind the other: La3, La4, La5, LaV. -/
import Derived.Test.YtncleikbggjmjaaGreatDoorMt0
import Derived.Test.YtncleikbggjmjaaGreatDoorMt29
/- lathe: edges, ways and circles, walked -/
namespace Go.Proofs.YtncleikbggjmjaaGreatDoor.Lathe
open Go.Sx Go.Proofs
def sideCells (b : Blank) (A : Option Addr) (l : List Pt) (c : Nat) : List Value := [I b.per, I b.rim, I b.core, I b.land, I b.slow, I b.fast, .slice A l.length c, I b.per]
def SideAt (w : World) (bs : Nat) (b : Blank) (A : Option Addr) (l : List Pt) (c : Nat) : Prop := w.heap[bs]? = some (blk (sideCells b A l c) 230)
theorem SideAt.cell {w : World} {bs c o : Nat} {b : Blank} {A : Option Addr} {l : List Pt} {v : Value} (h : SideAt w bs b A l c) (hv : (sideCells b A l c)[o]? = some v) : w.cell? ⟨bs, o, none⟩ = some v := by
  unfold SideAt at h
  simp [World.cell?, h, hv]
theorem SideAt.lt {w : World} {bs c : Nat} {b : Blank} {A : Option Addr} {l : List Pt} (h : SideAt w bs b A l c) : bs < w.heap.size := by
  unfold SideAt at h
  exact (Array.getElem?_eq_some_iff.1 h).1
theorem SideAt.sh {w0 w : World} {bs c : Nat} {b : Blank} {A : Option Addr} {l : List Pt} {H : Items} (h : SideAt w0 bs b A l c) (m : SH w0 none' H w) : SideAt w bs b A l c := by
  unfold SideAt
  rw [m.old bs h.lt (fun e => e)]; exact h
set_option maxRecDepth 10000 in
theorem C_lathe_edge {b : Blank} {A : Option Addr} {l : List Pt} {c bs : Nat} {rule samp : Int} {w : World} (hs : SideAt w bs b A l c) (hp : RdL w 2 ePt A l) (hb : b.ok = true) (hl : l.length ≤ 4096) (hpt : l.all ptOk = true) :
    Con0 Tryz.prog 104 [ptr bs 0, I rule, I samp] w (.tuple #[.agg (eEdge (edgeOf b l rule samp).1).toArray, .bool (edgeOf b l rule samp).2]) := by
  rw [Blank.ok_iff] at hb
  have hpt' : ∀ q, q < l.length → (-4194304 ≤ (l.getD q default).inn ∧ (l.getD q default).inn ≤ 4194304) ∧ (-4194304 ≤ (l.getD q default).out ∧ (l.getD q default).out ≤ 4194304) := by
    intro q hq
    have := List.all_eq_true.1 hpt _ (List.getElem_mem hq)
    simpa [ptOk, betw_iff, List.getD, hq] using this
  refine Ret_of (vs := [_, _, _]) hm none' Tryz.func104 rfl Tryz.ntmps104 rfl ?_
  dsimp only [slotsOf]
  refine Zp 2 [0] rfl ?_;refine Zb rfl zc_235 fun b6 => ?_;refine Zv rfl ?_;refine GT_nil ?_;refine Zp 8 [6, 7] rfl ?_;refine Zr 2 rfl ?_;refine GT_S rfl (V_build (vs := [_, _]) rfl rfl zc_233 pl_233 sa_233 rfl) ?_;refine Zr 2 rfl ?_;refine GT_S rfl (V_build (vs := [_, _, _, _, _]) rfl rfl zc_235 pl_235 sa_235 rfl) ?_;refine Zb rfl zc_235 fun b8 => ?_;refine ZS [_, _, _, _, _] [_, _, _, _, _] rfl rfl sz_235 rfl rfl rfl ?_;refine Zz ?_;refine Zq [0, 1, 2, 6, 8] 11 [] rfl rfl ?_;refine Zv rfl ?_;refine GT_S rfl (V_lss rfl rfl rfl) ?_;refine Zv rfl ?_;refine GT_split (d := 18) rfl (fun h1 => ?_) (fun h1 => ?_)
  · refine Zr 8 rfl ?_;refine GT_nil ?_;refine GE_cond_t rfl ?_;refine Zq [6, 8] 3 [1] rfl rfl ?_;refine ZN [_, _, _, _, _] rfl ag_235 sz_235 rfl rfl ?_;refine ZS [_, _, _, _, _] [_, _, _, _, _] rfl rfl sz_235 rfl rfl rfl ?_;refine Zv rfl ?_;refine GT_nil ?_;refine GE_ret Tryz.func104 ⟨_, _, ⟨_, rfl, fun w m => run_loadVar_agg (vs := [_, _, _, _, _]) ag_235 sz_235 rfl (fun j v hj => CellsAt.item rfl j v hj w m)⟩, rfl, rfl⟩ (fun w hw => ⟨?_, hw.nil⟩)
    unfold edgeOf; (repeat' split) <;> first | rfl | omega
  · refine Zr 3 rfl ?_;refine Zf rfl fo_230_1 ?_;refine ZL rfl ag_109 (CellAt.old (hs.cell rfl) (noM _)) ?_;refine Zn rfl Tryz.underlying109 ?_;refine GT_S rfl (V_geq rfl rfl rfl) ?_;refine Zv rfl ?_;refine GT_nil ?_;refine GE_cond rfl (fun h2 => ?_) (fun h2 => ?_)
    · refine Zq [6, 8] 3 [1] rfl rfl ?_;refine ZN [_, _, _, _, _] rfl ag_235 sz_235 rfl rfl ?_;refine ZS [_, _, _, _, _] [_, _, _, _, _] rfl rfl sz_235 rfl rfl rfl ?_;refine Zv rfl ?_;refine GT_nil ?_;refine GE_ret Tryz.func104 ⟨_, _, ⟨_, rfl, fun w m => run_loadVar_agg (vs := [_, _, _, _, _]) ag_235 sz_235 rfl (fun j v hj => CellsAt.item rfl j v hj w m)⟩, rfl, rfl⟩ (fun w hw => ⟨?_, hw.nil⟩)
      unfold edgeOf; (repeat' split) <;> first | rfl | omega
    · have hk1 := hpt' samp.toNat (by omega)
      refine GE_skip ?_;refine Zq [0, 1, 2, 6, 8] 9 [7, 8] rfl rfl ?_;refine Zr 2 rfl ?_;refine Zf rfl fo_230_1 ?_;refine ZL rfl ag_109 (CellAt.old (hs.cell rfl) (noM _)) ?_;refine Zv rfl ?_;refine GT_S rfl (V_index rfl rfl rfl Tryz.underlying109 sz_115 (k := samp.toNat) (by omega) (by omega) (hp.isSome (k := samp.toNat) (by omega))) ?_;refine GT_S rfl (V_loadN (vs := [_, _]) rfl rfl ag_115 sz_115 rfl (hp.ats noM (by omega))) ?_;refine Zb rfl zc_115 fun b9 => ?_;refine ZS [_, _] [_, _] rfl rfl sz_115 rfl rfl rfl ?_;refine Zz ?_;refine Zq [0, 1, 2, 6, 8, 9] 1 [] rfl rfl ?_;refine Zv rfl ?_;refine GT_nil ?_;refine GE_block ?_;refine Zp 2 [] rfl ?_;refine GT_S rfl (V_eql rfl rfl rfl) ?_;refine Zv rfl ?_;refine GT_nil ?_;refine GE_cond rfl (fun h1 => ?_) (fun h1 => ?_)
      · refine Zs [0, 6, 8, 9] rfl ?_;refine GE_drawn (.st 0 (.st 1 (.st 2 (.st 3 (.st 4 (.st 5 (.st 6 (.st 7 (.st 8 (.ld 9 [0, 1, 2, 3, 4, 5, 6, 7] (.st 10 (.ld 11 [] .nil)))))))))))) [9, 11] (by decide +kernel) ?_;refine Zr 2 rfl ?_;refine Zf rfl fo_230_0 ?_;refine Zf rfl fo_150_1 ?_;refine ZL rfl ag_2 (CellAt.old (hs.cell rfl) (noM _)) ?_;refine Zg rfl fo_115_1 rfl ag_2 rfl ?_;refine Za rfl (by omega) ?_;refine Zf rfl fo_235_1 ?_;refine GT_store (vs := [_]) (l' := [_, _, _, _, _]) rfl rfl rfl rfl rfl rfl rfl sz_3 rfl rfl (Nat.le_of_ble_eq_true rfl) rfl (Rv rfl rfl (Rv rfl rfl (Rf rfl fo_230_0 rfl (Rf rfl fo_150_1 rfl (GR_S rfl rfl (V_load rfl rfl ag_2 (CellAt.old (hs.cell rfl) (noM _))) (Rf rfl fo_115_1 rfl (Rl rfl ag_2 rfl rfl (GR_S rfl rfl (V_sub rfl rfl rfl (wrap_i64 (by omega))) GR_nil)))))))) ?_;refine Zf rfl fo_235_3 ?_;refine ZS [_] [_, _, _, _, _] rfl rfl sz_2 rfl rfl rfl ?_;refine GT_nil ?_;refine GE_inBlock ?_;refine Zq [6, 8] 3 [1] rfl rfl ?_;refine ZN [_, _, _, _, _] rfl ag_235 sz_235 rfl rfl ?_;refine ZS [_, _, _, _, _] [_, _, _, _, _] rfl rfl sz_235 rfl rfl rfl ?_;refine Zv rfl ?_;refine GT_nil ?_;refine GE_ret Tryz.func104 ⟨_, _, ⟨_, rfl, fun w m => run_loadVar_agg (vs := [_, _, _, _, _]) ag_235 sz_235 rfl (fun j v hj => CellsAt.item rfl j v hj w m)⟩, rfl, rfl⟩ (fun w hw => ⟨?_, hw.nil⟩)
        unfold edgeOf; (repeat' split) <;> first | rfl | omega
      · refine Zp 2 [] rfl ?_;refine GT_S rfl (V_eql rfl rfl rfl) ?_;refine Zv rfl ?_;refine GT_nil ?_;refine GE_cond rfl (fun h2 => ?_) (fun h2 => ?_)
        · refine Zs [0, 6, 8, 9] rfl ?_;refine GE_drawn (.st 0 (.st 1 (.st 2 (.st 3 (.st 4 (.st 5 (.st 6 (.st 7 (.st 8 (.ld 9 [0, 1, 2, 3, 4, 5, 6, 7] (.st 10 (.ld 11 [] .nil)))))))))))) [9, 11] (by decide +kernel) ?_;refine Zg rfl fo_115_0 rfl ag_2 rfl ?_;refine Zr 2 rfl ?_;refine Zf rfl fo_230_0 ?_;refine Zf rfl fo_150_2 ?_;refine ZL rfl ag_2 (CellAt.old (hs.cell rfl) (noM _)) ?_;refine Za rfl (by omega) ?_;refine Zf rfl fo_235_2 ?_;refine GT_store (vs := [_]) (l' := [_, _, _, _, _]) rfl rfl rfl rfl rfl rfl rfl sz_3 rfl rfl (Nat.le_of_ble_eq_true rfl) rfl (Rf rfl fo_115_0 rfl (Rl rfl ag_2 rfl rfl (Rv rfl rfl (Rv rfl rfl (Rf rfl fo_230_0 rfl (Rf rfl fo_150_2 rfl (GR_S rfl rfl (V_load rfl rfl ag_2 (CellAt.old (hs.cell rfl) (noM _))) (GR_S rfl rfl (V_sub rfl rfl rfl (wrap_i64 (by omega))) GR_nil)))))))) ?_;refine Zf rfl fo_235_3 ?_;refine ZS [_] [_, _, _, _, _] rfl rfl sz_2 rfl rfl rfl ?_;refine GT_nil ?_;refine GE_inBlock ?_;refine Zq [6, 8] 3 [1] rfl rfl ?_;refine ZN [_, _, _, _, _] rfl ag_235 sz_235 rfl rfl ?_;refine ZS [_, _, _, _, _] [_, _, _, _, _] rfl rfl sz_235 rfl rfl rfl ?_;refine Zv rfl ?_;refine GT_nil ?_;refine GE_ret Tryz.func104 ⟨_, _, ⟨_, rfl, fun w m => run_loadVar_agg (vs := [_, _, _, _, _]) ag_235 sz_235 rfl (fun j v hj => CellsAt.item rfl j v hj w m)⟩, rfl, rfl⟩ (fun w hw => ⟨?_, hw.nil⟩)
          unfold edgeOf; (repeat' split) <;> first | rfl | omega
        · refine Zq [0, 2, 6, 8, 9, 35] 2 [] rfl rfl ?_;refine GT_S rfl (V_eql rfl rfl rfl) ?_;refine Zv rfl ?_;refine GT_nil ?_;refine GE_cond rfl (fun h3 => ?_) (fun h3 => ?_)
          · refine GE_seq ?_;refine Zs [0, 2, 6, 8] rfl ?_;refine GE_drawn (.st 0 (.st 1 (.st 2 (.st 3 (.st 4 (.st 5 (.st 6 (.st 7 (.st 8 (.ld 9 [2, 3, 4, 5, 6, 7] (.st 10 (.ld 11 [] .nil)))))))))))) [9, 11] (by decide +kernel) ?_;refine Zv rfl ?_;refine Za rfl (by omega) ?_;refine Zr 2 rfl ?_;refine Zf rfl fo_230_0 ?_;refine Zf rfl fo_150_4 ?_;refine ZL rfl ag_2 (CellAt.old (hs.cell rfl) (noM _)) ?_;refine GT_S rfl (V_neg rfl rfl (wrap_i64 (by omega))) ?_;refine Zf rfl fo_235_1 ?_;refine GT_store (vs := [_]) (l' := [_, _, _, _, _]) rfl rfl rfl rfl rfl rfl rfl sz_3 rfl rfl (Nat.le_of_ble_eq_true rfl) rfl (Rv rfl rfl (Rv rfl rfl (Rf rfl fo_230_0 rfl (Rf rfl fo_150_4 rfl (GR_S rfl rfl (V_load rfl rfl ag_2 (CellAt.old (hs.cell rfl) (noM _))) (GR_S rfl rfl (V_neg rfl rfl (wrap_i64 (by omega))) GR_nil)))))) ?_;refine Zf rfl fo_235_3 ?_;refine ZS [_] [_, _, _, _, _] rfl rfl sz_2 rfl rfl rfl ?_;refine GT_nil ?_;refine Zq [2, 6, 8] 5 [3] rfl rfl ?_;refine ZN [_, _, _, _, _] rfl ag_235 sz_235 rfl rfl ?_;refine Zv rfl ?_;refine GT_S rfl (V_gtr rfl rfl rfl) ?_;refine ZS [_, _, _, _, _] [_, _, _, _, _] rfl rfl sz_235 rfl rfl rfl ?_;refine Zv rfl ?_;refine GT_nil ?_;refine GE_ret Tryz.func104 ⟨_, _, ⟨_, rfl, fun w m => run_loadVar_agg (vs := [_, _, _, _, _]) ag_235 sz_235 rfl (fun j v hj => CellsAt.item rfl j v hj w m)⟩, rfl, rfl⟩ (fun w hw => ⟨?_, hw.nil⟩)
            unfold edgeOf; (repeat' split) <;> first | rfl | omega
          · refine Zp 2 [] rfl ?_;refine GT_S rfl (V_eql rfl rfl rfl) ?_;refine Zv rfl ?_;refine GT_nil ?_;refine GE_cond rfl (fun h4 => ?_) (fun h4 => ?_)
            · refine GE_seq ?_;refine Zs [0, 2, 6, 8] rfl ?_;refine GE_drawn (.st 0 (.st 1 (.st 2 (.st 3 (.st 4 (.st 5 (.st 6 (.st 7 (.ld 8 [2, 3, 4, 5, 6] (.st 9 (.ld 10 [] .nil))))))))))) [8, 10] (by decide +kernel) ?_;refine Zv rfl ?_;refine Za rfl (by omega) ?_;refine Zr 2 rfl ?_;refine Zf rfl fo_230_0 ?_;refine Zf rfl fo_150_5 ?_;refine ZL rfl ag_2 (CellAt.old (hs.cell rfl) (noM _)) ?_;refine Zf rfl fo_235_2 ?_;refine GT_store (vs := [_]) (l' := [_, _, _, _, _]) rfl rfl rfl rfl rfl rfl rfl sz_3 rfl rfl (Nat.le_of_ble_eq_true rfl) rfl (Rv rfl rfl (Rv rfl rfl (Rf rfl fo_230_0 rfl (Rf rfl fo_150_5 rfl (GR_S rfl rfl (V_load rfl rfl ag_2 (CellAt.old (hs.cell rfl) (noM _))) GR_nil))))) ?_;refine Zf rfl fo_235_3 ?_;refine ZS [_] [_, _, _, _, _] rfl rfl sz_2 rfl rfl rfl ?_;refine GT_nil ?_;refine Zq [2, 6, 8] 5 [3] rfl rfl ?_;refine ZN [_, _, _, _, _] rfl ag_235 sz_235 rfl rfl ?_;refine Zv rfl ?_;refine GT_S rfl (V_gtr rfl rfl rfl) ?_;refine ZS [_, _, _, _, _] [_, _, _, _, _] rfl rfl sz_235 rfl rfl rfl ?_;refine Zv rfl ?_;refine GT_nil ?_;refine GE_ret Tryz.func104 ⟨_, _, ⟨_, rfl, fun w m => run_loadVar_agg (vs := [_, _, _, _, _]) ag_235 sz_235 rfl (fun j v hj => CellsAt.item rfl j v hj w m)⟩, rfl, rfl⟩ (fun w hw => ⟨?_, hw.nil⟩)
              unfold edgeOf; (repeat' split) <;> first | rfl | omega
            · refine Zq [0, 2, 6, 8, 9, 35] 2 [] rfl rfl ?_;refine GT_S rfl (V_eql rfl rfl rfl) ?_;refine Zv rfl ?_;refine GT_nil ?_;refine GE_cond rfl (fun h5 => ?_) (fun h5 => ?_)
              · refine GE_seq ?_;refine Zp 6 [] rfl ?_;refine Zr 3 rfl ?_;refine Zf rfl fo_230_2 ?_;refine ZL rfl ag_3 (CellAt.old (hs.cell rfl) (noM _)) ?_;refine GT_S rfl (V_lss rfl rfl rfl) ?_;refine GT_nil ?_;refine GE_cond rfl (fun h9 => ?_) (fun h9 => ?_)
                · refine Zq [6, 8] 3 [1] rfl rfl ?_;refine ZN [_, _, _, _, _] rfl ag_235 sz_235 rfl rfl ?_;refine ZS [_, _, _, _, _] [_, _, _, _, _] rfl rfl sz_235 rfl rfl rfl ?_;refine Zv rfl ?_;refine GT_nil ?_;refine GE_ret Tryz.func104 ⟨_, _, ⟨_, rfl, fun w m => run_loadVar_agg (vs := [_, _, _, _, _]) ag_235 sz_235 rfl (fun j v hj => CellsAt.item rfl j v hj w m)⟩, rfl, rfl⟩ (fun w hw => ⟨?_, hw.nil⟩)
                  unfold edgeOf; (repeat' split) <;> first | rfl | omega
                · have hk2 := hpt' (samp - b.per).toNat (by omega)
                  refine GE_skip ?_;refine Zs [0, 2, 6, 8, 9] rfl ?_;refine GE_drawn (.st 0 (.st 1 (.st 2 (.st 3 (.st 4 (.st 5 (.st 6 (.st 7 (.st 8 (.st 9 (.st 10 (.st 11 (.st 12 (.st 13 (.st 14 (.st 15 (.st 16 (.st 17 (.st 18 (.st 19 (.st 20 (.st 21 (.st 22 (.st 23 (.st 24 (.st 25 (.st 26 (.st 27 (.st 28 (.ld 29 [6, 7, 8, 9, 10, 11, 12, 13, 14, 15, 16, 17, 18, 19, 20, 21, 22, 23, 24, 25, 26, 27] (.st 30 (.ld 31 [] .nil)))))))))))))))))))))))))))))))) [29, 31] (by decide +kernel) ?_;refine Zr 3 rfl ?_;refine Zf rfl fo_230_2 ?_;refine ZL rfl ag_3 (CellAt.old (hs.cell rfl) (noM _)) ?_;refine Za rfl (by omega) ?_;refine Zr 2 rfl ?_;refine Zf rfl fo_230_1 ?_;refine ZL rfl ag_109 (CellAt.old (hs.cell rfl) (noM _)) ?_;refine Zr 3 rfl ?_;refine Zf rfl fo_230_2 ?_;refine ZL rfl ag_3 (CellAt.old (hs.cell rfl) (noM _)) ?_;refine Za rfl (by omega) ?_;refine GT_S rfl (V_index rfl rfl rfl Tryz.underlying109 sz_115 (k := (samp - b.per).toNat) (by omega) (by omega) (hp.isSome (k := samp.toNat) (by omega))) ?_;refine GT_S rfl (V_fieldA rfl rfl fo_115_0) ?_;refine ZL rfl ag_2 (hp.at0 noM (by omega) rfl) ?_;refine Zg rfl fo_115_1 rfl ag_2 rfl ?_;refine Za rfl (by omega) ?_;refine Zr 2 rfl ?_;refine Zf rfl fo_230_0 ?_;refine Zf rfl fo_150_3 ?_;refine ZL rfl ag_2 (CellAt.old (hs.cell rfl) (noM _)) ?_;refine Za rfl (by omega) ?_;refine Zf rfl fo_235_1 ?_;refine GT_store (vs := [_]) (l' := [_, _, _, _, _]) rfl rfl rfl rfl rfl rfl rfl sz_3 rfl rfl (Nat.le_of_ble_eq_true rfl) rfl (Rv rfl rfl (Rv rfl rfl (Rf rfl fo_230_1 rfl (GR_S rfl rfl (V_load rfl rfl ag_109 (CellAt.old (hs.cell rfl) (noM _))) (Rv rfl rfl (Rv rfl rfl (Rv rfl rfl (Rf rfl fo_230_2 rfl (GR_S rfl rfl (V_load rfl rfl ag_3 (CellAt.old (hs.cell rfl) (noM _))) (GR_S rfl rfl (V_sub rfl rfl rfl (wrap_i64 (by omega))) (GR_S rfl rfl (V_index rfl rfl rfl Tryz.underlying109 sz_115 (k := (samp - b.per).toNat) (by omega) (by omega) (hp.isSome (k := samp.toNat) (by omega))) (GR_S rfl rfl (V_fieldA rfl rfl fo_115_0) (GR_S rfl rfl (V_load rfl rfl ag_2 (hp.at0 noM (by omega) rfl)) (Rf rfl fo_115_1 rfl (Rl rfl ag_2 rfl rfl (GR_S rfl rfl (V_sub rfl rfl rfl (wrap_i64 (by omega))) (Rv rfl rfl (Rv rfl rfl (Rf rfl fo_230_0 rfl (Rf rfl fo_150_3 rfl (GR_S rfl rfl (V_load rfl rfl ag_2 (CellAt.old (hs.cell rfl) (noM _))) (GR_S rfl rfl (V_sub rfl rfl rfl (wrap_i64 (by omega))) GR_nil)))))))))))))))))))))) ?_;refine Zf rfl fo_235_3 ?_;refine ZS [_] [_, _, _, _, _] rfl rfl sz_2 rfl rfl rfl ?_;refine GT_nil ?_;refine GE_inBlock ?_;refine Zq [6, 8] 3 [1] rfl rfl ?_;refine ZN [_, _, _, _, _] rfl ag_235 sz_235 rfl rfl ?_;refine ZS [_, _, _, _, _] [_, _, _, _, _] rfl rfl sz_235 rfl rfl rfl ?_;refine Zv rfl ?_;refine GT_nil ?_;refine GE_ret Tryz.func104 ⟨_, _, ⟨_, rfl, fun w m => run_loadVar_agg (vs := [_, _, _, _, _]) ag_235 sz_235 rfl (fun j v hj => CellsAt.item rfl j v hj w m)⟩, rfl, rfl⟩ (fun w hw => ⟨?_, hw.nil⟩)
                  unfold edgeOf; (repeat' split) <;> first | rfl | omega
              · refine Zq [6, 8] 3 [1] rfl rfl ?_;refine ZN [_, _, _, _, _] rfl ag_235 sz_235 rfl rfl ?_;refine ZS [_, _, _, _, _] [_, _, _, _, _] rfl rfl sz_235 rfl rfl rfl ?_;refine Zv rfl ?_;refine GT_nil ?_;refine GE_ret Tryz.func104 ⟨_, _, ⟨_, rfl, fun w m => run_loadVar_agg (vs := [_, _, _, _, _]) ag_235 sz_235 rfl (fun j v hj => CellsAt.item rfl j v hj w m)⟩, rfl, rfl⟩ (fun w hw => ⟨?_, hw.nil⟩)
                unfold edgeOf; (repeat' split) <;> first | rfl | omega
theorem C_lathe_edges {bs : Nat} {w : World} : Con Tryz.prog 105 [ptr bs 0] w (fun _ : Nat => True) (fun bb => .func (.func 125) #[] #[ptr bb 0]) (fun bb => [(bb, blk [ptr bs 0] 182)]) := by
  refine Ret_of (vs := [_]) hm none' Tryz.func105 rfl Tryz.ntmps105 rfl ?_
  dsimp only [slotsOf]
  refine Zp 2 [0] rfl ?_;refine Zx [_] rfl rfl fun b1 => ?_;refine Zv rfl ?_;refine GT_nil ?_;refine Zp 2 [] rfl ?_;refine GT_S rfl (V_makeFunc rfl rfl rfl) ?_;refine Zv rfl ?_;refine GT_nil ?_;refine GE_ret Tryz.func105 rfl (fun w hw => ⟨b1, trivial, rfl, hw⟩)
  skip
def revTo {α : Type} [Inhabited α] (l : List α) (k : Nat) : List α := (List.range l.length).map fun q => if q < k ∨ l.length - k ≤ q then l.getD (l.length - 1 - q) default else l.getD q default
theorem revTo_length {α : Type} [Inhabited α] (l : List α) (k : Nat) : (revTo l k).length = l.length := by simp [revTo]
theorem revTo_getD {α : Type} [Inhabited α] (l : List α) (k q : Nat) (hq : q < l.length) : (revTo l k).getD q default = if q < k ∨ l.length - k ≤ q then l.getD (l.length - 1 - q) default else l.getD q default := by
  simp [revTo, List.getD, hq]
theorem list_ext_getD {α : Type} [Inhabited α] {a b : List α} (hl : a.length = b.length) (h : ∀ q, q < a.length → a.getD q default = b.getD q default) : a = b := by
  apply List.ext_getElem hl
  intro i h1 h2
  have := h i h1
  simpa [List.getD, h1, h2] using this
theorem revTo_zero {α : Type} [Inhabited α] (l : List α) : revTo l 0 = l := by
  apply list_ext_getD (revTo_length l 0)
  intro q hq
  rw [revTo_length] at hq
  rw [revTo_getD _ _ _ hq, if_neg (by omega)]
theorem getD_set {α : Type} [Inhabited α] {l : List α} {i q : Nat} {x : α} (hi : i < l.length) : (l.set i x).getD q default = if i = q then x else l.getD q default := by
  simp only [List.getD, List.getElem?_set]
  split
  · rename_i h; subst h; simp [hi]
  · rfl
theorem revTo_succ {α : Type} [Inhabited α] (l : List α) (k j : Nat) (hj : j + k + 1 = l.length) (hk : k < j) : ((revTo l k).set k ((revTo l k).getD j default)).set j ((revTo l k).getD k default) = revTo l (k + 1) := by
  apply list_ext_getD (by simp [revTo_length])
  intro q hq
  simp only [List.length_set, revTo_length] at hq
  rw [getD_set (by simp [revTo_length]; omega), getD_set (by simp [revTo_length]; omega), revTo_getD _ _ _ hq, revTo_getD _ _ _ hq, revTo_getD l k j (by omega), revTo_getD l k k (by omega)]
  by_cases h1 : j = q
  · subst h1
    rw [if_pos rfl, if_neg (by omega), if_pos (by omega)]
    congr 1; omega
  · rw [if_neg h1]
    by_cases h2 : k = q
    · subst h2
      rw [if_pos rfl, if_neg (by omega), if_pos (by omega)]
      congr 1; omega
    · rw [if_neg h2]
      by_cases h3 : q < k ∨ l.length - k ≤ q
      · rw [if_pos h3, if_pos (by omega)]
      · rw [if_neg h3, if_neg (by omega)]
theorem revTo_end {α : Type} [Inhabited α] (l : List α) (k : Nat) (hk : l.length ≤ 2 * k + 1) : revTo l k = l.reverse := by
  apply list_ext_getD (by simp [revTo_length])
  intro q hq
  rw [revTo_length] at hq
  rw [revTo_getD _ _ _ hq]
  have : l.reverse.getD q default = l.getD (l.length - 1 - q) default := by simp [List.getD, List.getElem?_reverse hq]
  rw [this]
  split
  · rfl
  · congr 1; omega
theorem C_slices_Reverse {l : List Stp} {A : Option Addr} {c : Nat} {I0 : Items} {w : World} {w0 : World} {H H1 : Items} [hch : HChunk I0 H H1] (m : SH w0 none' H w) (hO : Own 2 233 eStp l (.slice A l.length c) I0) (hl : l.length ≤ 1099511627776) :
    Ret Tryz.prog 126 [.slice A l.length c].toArray w fun v w' => ∃ I', Own 2 233 eStp l.reverse (.slice A l.length c) I' ∧ v = .tuple #[] ∧ SH w0 none' (I' ++ H1) w' := by
  have m' := m.perm hch.perm
  refine Ret_ofH (vs := [_]) hm none' Tryz.func126 rfl Tryz.ntmps126 rfl m' ?_
  dsimp only [slotsOf]
  refine Zp 5 [] rfl ?_;refine Zv rfl ?_;refine Zn rfl Tryz.underlying185 ?_;refine Za rfl (by omega) ?_;refine Zr 2 rfl ?_;refine GT_nil ?_;refine GE_block ?_;refine GE_to (GE_loop (ι := Nat × Int × Items) (fun x => l.length - x.1) (fun x => [(0, .slice A l.length c), (2, I x.1), (3, I x.2.1)]) (fun x => x.2.2 ++ H1) (fun x => x.1 ≤ l.length ∧ x.2.1 = (l.length : Int) - 1 - x.1 ∧ Own 2 233 eStp (revTo l x.1) (.slice A l.length c) x.2.2) ?_ (0, _, I0) ?_) ⟨rfl, rfl, rfl, trivial⟩ (HS.chunk HS.all)
  · rintro ⟨k, j, I1⟩ ⟨hk, hj, hO1⟩ ih; dsimp only at hk hj hO1 ih ⊢
    refine GE_seq ?_;refine Zp 3 [] rfl ?_;refine Zr 2 rfl ?_;refine GT_S rfl (V_lss rfl rfl rfl) ?_;refine GT_nil ?_;refine GE_cond rfl (fun h1 => ?_) (fun h1 => ?_)
    · have hlen := revTo_length l k
      refine GE_skip ?_;refine GE_seq ?_;refine GE_block ?_;refine GE_drawn (.st 0 (.st 1 (.st 2 (.st 3 (.st 4 (.st 5 (.st 6 (.st 7 (.st 8 (.st 9 (.st 10 (.st 11 (.st 12 (.ld 13 [2, 3] (.st 14 (.ld 15 [] .nil)))))))))))))))) [13, 15] (by decide +kernel) ?_;refine Zr 6 rfl ?_;refine GT_S rfl (V_index rfl rfl rfl Tryz.underlying185 sz_233 (k := j.toNat) (by omega) (by omega) (hO1.isSome (k := k) (by omega))) ?_;refine GT_S rfl (V_loadN (vs := [_, _]) rfl rfl ag_233 sz_233 rfl (CellsAt.own hO1 eStp_len (by omega))) ?_;refine Zr 2 rfl ?_;refine GT_S rfl (V_index rfl rfl rfl Tryz.underlying185 sz_233 rfl (by omega) (hO1.isSome (k := k) (by omega))) ?_;refine GT_S rfl (V_loadN (vs := [_, _]) rfl rfl ag_233 sz_233 rfl (CellsAt.own hO1 eStp_len (by omega))) ?_;refine GT_S rfl (V_index rfl rfl rfl Tryz.underlying185 sz_233 rfl (by omega) (hO1.isSome (k := k) (by omega))) ?_;refine GT_storeOwn (enc := eStp) (q := k) (xx := (revTo l k).getD j.toNat default) rfl rfl rfl rfl rfl rfl rfl sz_233 hO1 eStp_len eStp_one (by omega) (by decide) (fun _ _ => Rv rfl rfl (Rv rfl rfl GR_nil)) (fun I2 hO2 => ?_);refine GT_S rfl (V_index rfl rfl rfl Tryz.underlying185 sz_233 (k := j.toNat) (by omega) (by omega) (hO1.isSome (k := k) (by omega))) ?_;refine GT_storeOwn (enc := eStp) (q := j.toNat) (xx := (revTo l k).getD k default) rfl rfl rfl rfl rfl rfl rfl sz_233 hO2 eStp_len eStp_one (by simp; omega) (by decide) (fun _ _ => GR_nil) (fun I3 hO3 => ?_);refine GT_nil ?_;refine GE_inBlock ?_;refine Zs [0, 2, 3] rfl ?_
      rw [revTo_succ l k j.toNat (by omega) (by omega)] at hO3
      refine ZP 6 [4, 5] rfl ?_;refine Zv rfl ?_;refine Za rfl (by omega) ?_;refine Zv rfl ?_;refine Za rfl (by omega) ?_;refine Zw rfl ?_;refine Zw rfl ?_;refine GT_nil ?_
      exact GE_to (ih (k + 1, _, I3) ⟨by dsimp only; omega, by dsimp only; omega, hO3⟩ (by dsimp only; omega)) ⟨rfl, rfl, rfl, trivial⟩ (HS.chunk HS.all)
    · have he := revTo_end l k (by omega)
      refine GE_exit rfl ?_;refine GE_end Tryz.func126 rfl (fun w hw => ?_)
      exact ⟨I1, by rw [← he]; exact hO1, rfl, hw⟩
  · exact ⟨Nat.zero_le _, by simp, by rw [revTo_zero]; exact hO⟩
end Go.Proofs.YtncleikbggjmjaaGreatDoor.Lathe
/- lathe: way, circle, and the function that yields the edges, walked -/
namespace Go.Proofs.YtncleikbggjmjaaGreatDoor.Lathe
open Go.Sx Go.Proofs
theorem hide {p : Prop} (h : p) : Go.RowKit.Hid p := h
def wsteps (last : List Edge) (x : Edge) (k : Nat) : List Stp := x.stp :: (List.range k).map fun i => (last.getD (back last i x.frm).toNat default).stp
theorem wsteps_length (last : List Edge) (x : Edge) (k : Nat) : (wsteps last x k).length = k + 1 := by simp [wsteps]
theorem wsteps_succ (last : List Edge) (x : Edge) (k : Nat) : wsteps last x k ++ [(last.getD (back last k x.frm).toNat default).stp] = wsteps last x (k + 1) := by simp [wsteps, List.range_succ]
def wat (last : List Edge) (x : Edge) : Nat → Edge
  | 0 => x
  | k + 1 => last.getD (back last k x.frm).toNat default
theorem wat_frm (last : List Edge) (x : Edge) : ∀ k, (wat last x k).frm = back last k x.frm
  | 0 => rfl
  | _ + 1 => rfl
theorem C_lathe_way {last : List Edge} {x : Edge} {A : Option Addr} {c m n : Nat} {w : World} (hn : n = last.length) (hr : RdL w 5 eEdge A last) (hq : ∀ i, i < m → 0 ≤ back last i x.frm ∧ back last i x.frm < last.length) (hm1 : back last m x.frm = -1) (hm2 : m ≤ 67108864) :
    Con Tryz.prog 107 [.slice A n c, .agg (eEdge x).toArray] w (fun y : Option Addr × Nat × Items => Own 2 233 eStp (wsteps last x m).reverse (.slice y.1 (wsteps last x m).length y.2.1) y.2.2)
      (fun y => .slice y.1 (wsteps last x m).length y.2.1) (fun y => y.2.2) := by
  subst hn
  refine Ret_of (vs := [_, _]) hm none' Tryz.func107 rfl Tryz.ntmps107 rfl ?_
  dsimp only [slotsOf]
  refine Zp 2 [0] rfl ?_;refine Zx [_, _, _, _, _] rfl rfl fun b3 => ?_;refine Zv rfl ?_;refine GT_nil ?_;refine Zp 4 [2] rfl ?_;refine Zf rfl fo_235_0 ?_;refine ZN [_, _] rfl ag_233 sz_233 rfl rfl ?_;refine GT_buildSlice (z := [_, _]) rfl rfl rfl rfl rfl Tryz.underlying185 zc_233 sz_233 (by decide) rfl rfl (fun _ => GR_nil) (fun b8 => ?_);refine Zv rfl ?_;refine Zz ?_;refine GE_block ?_;refine GE_to (GE_loop (ι := Nat × Option Addr × Nat × Items) (fun y => m - y.1) (fun y => [(0, .slice A last.length c), (3, ptr b3 0), (5, .slice y.2.1 (wsteps last x y.1).length y.2.2.1)]) (fun y => y.2.2.2 ++ [(b3, blk (eEdge (wat last x y.1)) 235)]) (fun y => y.1 ≤ m ∧ Own 2 233 eStp (wsteps last x y.1) (.slice y.2.1 (wsteps last x y.1).length y.2.2.1) y.2.2.2) ?_ (0, some ⟨b8, 0, none⟩, 1, [(b8, blk (eStp x.stp) 233)]) ?_) ⟨rfl, rfl, rfl, trivial⟩ (show HS _ _ ((b8, blk (eStp x.stp) 233) :: (b3, blk (eEdge x) 235) :: []) from HS.cons rfl (HS.cons rfl HS.nil))
  · rintro ⟨k, A5, c5, I5⟩ ⟨hk, hO⟩ ih; dsimp only at hk hO ih ⊢; have hfr := wat_frm last x k
    refine GE_seq ?_;refine Zp 3 [] rfl ?_;refine Zg rfl fo_235_1 rfl ag_3 rfl ?_;refine GT_S rfl (V_neq rfl rfl rfl) ?_;refine GT_nil ?_;refine GE_condNot rfl (fun h1 => ?_) (fun h1 => ?_)
    · have hkm : k < m := (by rcases Nat.lt_or_ge k m with h | h; exact h; obtain rfl : k = m := (by omega); exact absurd (hfr.trans hm1) h1)
      refine GE_skip ?_;refine GE_block ?_;refine Zp 6 [5] rfl ?_;refine Zv rfl ?_;refine Zg rfl fo_235_1 rfl ag_3 rfl ?_;refine GT_S rfl (V_index rfl rfl rfl Tryz.underlying231 sz_235 (k := (back last k x.frm).toNat) (by have := hq k hkm; omega) (by have := hq k hkm; omega) (hr.isSome (k := (back last k x.frm).toNat) (by have := hq k hkm; omega))) ?_;refine GT_S rfl (V_loadN (vs := [_, _, _, _, _]) rfl rfl ag_235 sz_235 rfl (hr.ats noM (by have := hq k hkm; omega))) ?_;refine ZS [_, _, _, _, _] [_, _, _, _, _] rfl rfl sz_235 rfl rfl rfl ?_;refine GT_nil ?_;refine Zs [0, 3, 5] rfl ?_;refine ZP 6 [3, 4, 5] rfl ?_;refine Zv rfl ?_;refine Zf rfl fo_235_0 ?_;refine ZN [_, _] rfl ag_233 sz_233 rfl rfl ?_;refine GT_buildSlice (z := [_, _]) rfl rfl rfl rfl rfl Tryz.underlying185 zc_233 sz_233 (by decide) rfl rfl (fun _ => GR_nil) (fun b20 => ?_);refine GT_append (enc := eStp) (m := [(last.getD (back last k x.frm).toNat default).stp]) rfl rfl rfl rfl rfl rfl rfl hO (fun w m => RdL.own' m eStp_len) Tryz.underlying185 zc_233 sz_233 ⟨rfl, by decide⟩ by_233 ⟨by rw [wsteps_length]; simp; omega, by rw [wsteps_length]; simp; omega⟩ eStp_len eStp_one (fun _ _ _ _ => GR_nil) (fun A' c' I' hO' => ?_)
      rw [wsteps_succ] at hO' ⊢
      refine Zw rfl ?_;refine GT_nil ?_;refine GE_inBlock ?_
      exact GE_to (ih (k + 1, A', c', I') ⟨by dsimp only; omega, hO'⟩ (by dsimp only; omega)) ⟨rfl, rfl, rfl, trivial⟩ (HS.chunk (HS.cons rfl HS.nil))
    · obtain rfl : k = m := (by rcases Nat.lt_or_ge k m with h | h; have := hq k h; omega; omega)
      refine GE_exit rfl ?_;refine Zq [5] 2 [1] rfl rfl ?_;refine Zv rfl ?_;refine GT_callX rfl rfl rfl rfl rfl rfl rfl rfl rn_126 (fun w m => C_slices_Reverse m hO (by rw [wsteps_length]; omega)) (fun _ _ => GR_nil) (fun I6 hO6 => ?_);refine GT_nil ?_;refine Zp 2 [] rfl ?_;refine Zr 2 rfl ?_;refine GT_nil ?_;refine GE_ret Tryz.func107 rfl (fun w hw => ?_)
      exact ⟨(A5, c5, I6), hO6, rfl, hw.chunk⟩
  · exact ⟨Nat.zero_le _, (show Own 2 233 eStp [x.stp] (.slice (some ⟨b8, 0, none⟩) 1 1) _ from Own.lit rfl rfl (by decide))⟩
def csteps (last : List Edge) (v : Int) (k : Nat) : List Stp := (List.range k).map fun i => (last.getD (back last i v).toNat default).stp
theorem csteps_length (last : List Edge) (v : Int) (k : Nat) : (csteps last v k).length = k := by simp [csteps]
theorem csteps_succ (last : List Edge) (v : Int) (k : Nat) : csteps last v k ++ [(last.getD (back last k v).toNat default).stp] = csteps last v (k + 1) := by simp [csteps, List.range_succ]
def Circ (last : List Edge) (v : Int) (m : Nat) : Prop := 0 < m ∧ back last m v = v ∧ ∀ j, 0 < j → j < m → back last j v ≠ v
theorem C_lathe_circle {last : List Edge} {v0 : Int} {A : Option Addr} {c m0 n : Nat} {w : World} (hnl : n = last.length) (hr : RdL w 5 eEdge A last) (hq : ∀ i, 0 ≤ back last i v0 ∧ back last i v0 < last.length) (hn : last.length ≤ 1000000) (h0 : 0 < m0) (hm0 : back last m0 (back last last.length v0) = back last last.length v0) (hle : m0 ≤ 1000000)
    (hq2 : ∀ i, 0 ≤ back last i (back last last.length v0) ∧ back last i (back last last.length v0) < last.length) :
    Con Tryz.prog 106 [.slice A n c, I v0] w (fun y : Nat × Option Addr × Nat × Items => Circ last (back last last.length v0) y.1 ∧ Own 2 233 eStp (csteps last (back last last.length v0) y.1).reverse (.slice y.2.1 (csteps last (back last last.length v0) y.1).length y.2.2.1) y.2.2.2)
      (fun y => .slice y.2.1 (csteps last (back last last.length v0) y.1).length y.2.2.1) (fun y => y.2.2.2) := by
  subst hnl
  generalize hv : back last last.length v0 = v at *
  have Hv := hide hv
  clear hv
  refine Ret_of (vs := [_, _]) hm none' Tryz.func106 rfl Tryz.ntmps106 rfl ?_
  dsimp only [slotsOf]
  refine Zp 1 [] rfl ?_;refine Zv rfl ?_;refine Zz ?_;refine Zp 3 [] rfl ?_;refine Zv rfl ?_;refine Zn rfl Tryz.underlying231 ?_;refine Zv rfl ?_;refine GT_nil ?_;refine GE_block ?_;refine GE_to (GE_loop (ι := Nat) (fun k => last.length - k) (fun k => [(0, .slice A last.length c), (1, I (back last k v0)), (8, I last.length), (9, I k)]) (fun k => []) (fun k => k ≤ last.length) ?_ 0 ?_) ⟨rfl, rfl, rfl, rfl, trivial⟩ HS.nil
  · intro k hk ih
    refine Zp 1 [] rfl ?_;refine GT_S rfl (V_lss rfl rfl rfl) ?_;refine Zz ?_;refine GE_cond rfl (fun h1 => ?_) (fun h1 => ?_)
    · have hqk := hq k
      refine GE_skip ?_;refine GE_seq ?_;refine GE_block ?_;refine ZP 6 [5] rfl ?_;refine Zr 2 rfl ?_;refine GT_S rfl (V_index rfl rfl rfl Tryz.underlying231 sz_235 (k := (back last k v0).toNat) (by omega) (by omega) (hr.isSome (k := k) (by omega))) ?_;refine GT_S rfl (V_fieldA rfl rfl fo_235_1) ?_;refine ZL rfl ag_3 (hr.at1 noM (by omega) rfl) ?_;refine Zw rfl ?_;refine GT_nil ?_;refine GE_inBlock ?_;refine Zs [0, 1, 8, 9] rfl ?_;refine ZP 2 [1] rfl ?_;refine Za rfl (by omega) ?_;refine Zw rfl ?_;refine GT_nil ?_
      exact GE_to (ih (k + 1) (by omega) (by omega)) ⟨rfl, rfl, rfl, rfl, trivial⟩ HS.nil
    · obtain rfl : k = last.length := (by omega); rw [Hv.out]; have hqv := hq2 0; simp only [back] at hqv
      refine GE_exit rfl ?_;refine Zp 1 [] rfl ?_;refine Zv rfl ?_;refine GT_nil ?_;refine Zp 6 [4, 5] rfl ?_;refine Zr 2 rfl ?_;refine GT_S rfl (V_index rfl rfl rfl Tryz.underlying231 sz_235 (k := v.toNat) (by omega) (by omega) (hr.isSome (k := v.toNat) (by omega))) ?_;refine GT_S rfl (V_loadN (vs := [_, _, _, _, _]) rfl rfl ag_235 sz_235 rfl (hr.ats noM (by omega))) ?_;refine Zb rfl zc_235 fun b6 => ?_;refine ZS [_, _, _, _, _] [_, _, _, _, _] rfl rfl sz_235 rfl rfl rfl ?_;refine GT_nil ?_;refine GE_block ?_;refine GE_to (GE_loop (ι := Nat × Nat × Option Addr × Nat × Items) (fun y => m0 - y.1) (fun y => [(0, .slice A last.length c), (1, I v), (5, .slice y.2.2.1 (csteps last v y.1).length y.2.2.2.1), (6, ptr y.2.1 0)]) (fun y => y.2.2.2.2 ++ [(y.2.1, blk (eEdge (last.getD (back last y.1 v).toNat default)) 235)]) (fun y => y.1 < m0 ∧ (∀ j, 0 < j → j ≤ y.1 → back last j v ≠ v) ∧ Own 2 233 eStp (csteps last v y.1) (.slice y.2.2.1 (csteps last v y.1).length y.2.2.2.1) y.2.2.2.2) ?_ (0, b6, none, 0, []) ?_) ⟨rfl, rfl, rfl, rfl, trivial⟩ (HS.chunk (HS.cons rfl HS.nil))
      · rintro ⟨k, b6, A5, c5, I5⟩ ⟨hk, hne, hO⟩ ih2; dsimp only at hk hne hO ih2 ⊢
        refine GE_seq ?_;refine GE_block ?_;refine Zp 6 [3, 4, 5] rfl ?_;refine Zv rfl ?_;refine Zf rfl fo_235_0 ?_;refine ZN [_, _] rfl ag_233 sz_233 rfl rfl ?_;refine GT_buildSlice (z := [_, _]) rfl rfl rfl rfl rfl Tryz.underlying185 zc_233 sz_233 (by decide) rfl rfl (fun _ => GR_nil) (fun b29 => ?_);refine GT_append (enc := eStp) (m := [(last.getD (back last k v).toNat default).stp]) rfl rfl rfl rfl rfl rfl rfl hO (fun w m => RdL.own' m eStp_len) Tryz.underlying185 zc_233 sz_233 ⟨rfl, by decide⟩ by_233 ⟨by rw [csteps_length]; simp; omega, by rw [csteps_length]; simp; omega⟩ eStp_len eStp_one (fun _ _ _ _ => GR_nil) (fun A' c' I' hO' => ?_)
        rw [csteps_succ] at hO' ⊢
        refine Zw rfl ?_;refine GT_nil ?_;refine Zq [0, 1, 5, 6] 4 [] rfl rfl ?_;refine Zg rfl fo_235_1 rfl ag_3 rfl ?_;refine Zv rfl ?_;refine GT_S rfl (V_eql rfl rfl rfl) ?_;refine GT_nil ?_;refine GE_cond rfl (fun h2 => ?_) (fun h2 => ?_)
        · refine Zq [5] 2 [1] rfl rfl ?_;refine Zv rfl ?_;refine GT_callX rfl rfl rfl rfl rfl rfl rfl rfl rn_126 (fun w m => C_slices_Reverse m hO' (by rw [csteps_length]; omega)) (fun _ _ => GR_nil) (fun I6 hO6 => ?_);refine GT_nil ?_;refine Zp 2 [] rfl ?_;refine Zr 2 rfl ?_;refine GT_nil ?_;refine GE_ret Tryz.func106 rfl (fun w hw => ?_)
          exact ⟨(k + 1, A', c', I6), ⟨⟨by dsimp only; omega, h2, (fun j hj1 hj2 => hne j hj1 (by dsimp only at hj2; omega))⟩, hO6⟩, rfl, hw.chunk⟩
        · have hqn := hq2 (k + 1)
          refine GE_skip ?_;refine GE_inBlock ?_;refine GE_seq ?_;refine Zq [0, 1, 5, 6] 1 [] rfl rfl ?_;refine ZN [_, _, _, _, _] rfl ag_235 sz_235 rfl rfl ?_;refine GT_nil ?_;refine ZP 2 [0, 1] rfl ?_;refine Zb rfl zc_235 fun b6 => ?_;refine ZS [_, _, _, _, _] [_, _, _, _, _] rfl rfl sz_235 rfl rfl rfl ?_;refine GT_nil ?_;refine ZP 6 [5] rfl ?_;refine Zv rfl ?_;refine Zg rfl fo_235_1 rfl ag_3 rfl ?_;refine GT_S rfl (V_index rfl rfl rfl Tryz.underlying231 sz_235 (k := (back last (k + 1) v).toNat) (show par last (back last k v) = _ by have : back last (k + 1) v = par last (back last k v) := rfl; omega) (by omega) (hr.isSome (k := (back last (k + 1) v).toNat) (by omega))) ?_;refine GT_S rfl (V_loadN (vs := [_, _, _, _, _]) rfl rfl ag_235 sz_235 rfl (hr.ats noM (by omega))) ?_;refine ZS [_, _, _, _, _] [_, _, _, _, _] rfl rfl sz_235 rfl rfl rfl ?_;refine GT_nil ?_
          exact GE_to (ih2 (k + 1, b6, A', c', I') ⟨by dsimp only; rcases Nat.lt_or_ge (k + 1) m0 with h | h; exact h; exfalso; obtain rfl : k + 1 = m0 := (by omega); exact h2 hm0, (fun j hj1 hj2 => by dsimp only at hj2; rcases Nat.lt_or_ge j (k + 1) with h | h; exact hne j hj1 (by omega); obtain rfl : j = k + 1 := (by omega); exact h2), hO'⟩ (by dsimp only; omega)) ⟨rfl, rfl, rfl, rfl, trivial⟩ (HS.chunk (HS.cons rfl HS.nil))
      · exact ⟨h0, (fun j h1 h2 => by dsimp only at h2; omega), Own.nil⟩
  · exact Nat.zero_le _
end Go.Proofs.YtncleikbggjmjaaGreatDoor.Lathe
/- lathe: the function that yields the edges, walked -/
namespace Go.Proofs.YtncleikbggjmjaaGreatDoor.Lathe
open Go.Sx Go.Proofs
def ruleOf (j : Nat) : Int := if j = 0 then 3 else 5
def edgesTo (b : Blank) (l : List Pt) (k j : Nat) : List Edge := (List.range k).flatMap (inward b l) ++ (List.range j).flatMap fun q => optE (edgeOf b l (ruleOf q) k)
theorem edgesTo_succ (b : Blank) (l : List Pt) (k j : Nat) : edgesTo b l k j ++ optE (edgeOf b l (ruleOf j) k) = edgesTo b l k (j + 1) := by simp [edgesTo, List.range_succ]
theorem edgesTo_two (b : Blank) (l : List Pt) (k : Nat) : edgesTo b l k 2 = edgesTo b l (k + 1) 0 := by simp [edgesTo, List.range_succ, inward, ruleOf]
theorem edgesTo_pre {b : Blank} {l : List Pt} {k : Nat} (hk : k < l.length) {j : Nat} (hj : j ≤ 2) : edgesTo b l k j <+: edgeList b l := by
  have h1 : edgesTo b l k j <+: edgesTo b l k 2 := by
    rcases (show j = 0 ∨ j = 1 ∨ j = 2 by omega) with rfl | rfl | rfl
    · exact ⟨_, by rw [← edgesTo_succ, ← edgesTo_succ, List.append_assoc]⟩
    · exact ⟨_, by rw [← edgesTo_succ b l k 1]⟩
    · exact List.prefix_rfl
  have h2 : edgesTo b l k 2 <+: (List.range l.length).flatMap (inward b l) := by
    rw [edgesTo_two]
    obtain ⟨m, hm⟩ : ∃ m, l.length = (k + 1) + m := ⟨l.length - (k + 1), by omega⟩
    rw [hm, List.range_add, List.flatMap_append]
    simp [edgesTo]
  exact h1.trans (h2.trans (List.prefix_append _ _))
def edgesOut (b : Blank) (l : List Pt) (d : Nat) : List Edge := (List.range l.length).flatMap (inward b l) ++ ((List.range (l.length - 1)).reverse.take d).flatMap fun i : Nat => optE (edgeOf b l 4 ((i : Int) + 1))
theorem edgesOut_succ {b : Blank} {l : List Pt} {d : Nat} (hd : d + 1 < l.length) : edgesOut b l d ++ optE (edgeOf b l 4 ((l.length : Int) - 1 - d)) = edgesOut b l (d + 1) := by
  have h : d < (List.range (l.length - 1)).reverse.length := by simp; omega
  unfold edgesOut
  rw [List.take_succ_eq_append_getElem h, List.flatMap_append, List.append_assoc]
  have e : (((List.range (l.length - 1)).reverse[d] : Nat) : Int) + 1 = (l.length : Int) - 1 - d := by
    rw [List.getElem_reverse]; simp; omega
  rw [List.flatMap_singleton, e]
theorem edgesOut_end {b : Blank} {l : List Pt} {d : Nat} (hd : l.length ≤ d + 1) : edgesOut b l d = edgeList b l := by
  unfold edgesOut edgeList
  rw [List.take_of_length_le (by simp; omega)]
theorem edgesOut_pre {b : Blank} {l : List Pt} {d : Nat} : edgesOut b l d <+: edgeList b l := by
  unfold edgesOut edgeList
  rw [List.prefix_append_right_inj]
  exact ⟨((List.range (l.length - 1)).reverse.drop d).flatMap _, by rw [← List.flatMap_append, List.take_append_drop]⟩
theorem optE_true {x : Edge × Bool} (h : x.2 = true) : optE x = [x.1] := by simp [optE, h]
theorem optE_false {x : Edge × Bool} (h : x.2 = false) : optE x = [] := by simp [optE, h]
theorem C_edges1 {b : Blank} {A : Option Addr} {l : List Pt} {c bs bb lp : Nat} {w w0 : World} {J : Items} {Q : List Edge → Items → Prop} (hs : SideAt w0 bs b A l c) (hp : RdL w0 2 ePt A l) (hb : b.ok = true) (hl : l.length ≤ 4096) (hpt : l.all ptOk = true)
    (hY : ∀ pre x J, (pre ++ [x]) <+: edgeList b l → Q pre J → ∀ G, YieldTo Tryz.prog w0 none' lp [.agg (eEdge x).toArray] (J ++ G) fun v H' => ∃ J', v = .bool true ∧ Q (pre ++ [x]) J' ∧ H' = J' ++ G)
    (hQ : Q [] J) {G : Items} (m : SH w0 none' (J ++ (bb, blk [ptr bs 0] 182) :: G) w) :
    Ret Tryz.prog 125 [.func (.yield lp) #[] #[], ptr bb 0].toArray w fun v w' => ∃ J', Q (edgeList b l) J' ∧ SH w0 none' (J' ++ (bb, blk [ptr bs 0] 182) :: G) w' := by
  refine Ret_ofH (vs := [_, _]) hm none' Tryz.func125 rfl Tryz.ntmps125 rfl m ?_
  dsimp only [slotsOf]
  refine Zp 6 [] rfl ?_;refine Zl rfl ag_182 rfl ?_;refine Zv rfl ?_;refine Zf rfl fo_230_1 ?_;refine ZL rfl ag_109 (CellAt.old (hs.cell rfl) (noM _)) ?_;refine Zn rfl Tryz.underlying109 ?_;refine Zv rfl ?_;refine Zz ?_;refine Zq [0, 1, 3] 2 [] rfl rfl ?_;refine Zr 2 rfl ?_;refine GT_nil ?_;refine GE_block ?_;refine GE_to (GE_loop (ι := Nat × Items) (fun x => l.length - x.1) (fun x => [(0, .func (.yield lp) #[] #[]), (1, ptr bb 0), (3, I l.length), (17, I l.length), (18, I x.1)]) (fun x => x.2 ++ (bb, blk [ptr bs 0] 182) :: G) (fun x => x.1 ≤ l.length ∧ Q (edgesTo b l x.1 0) x.2) ?_ (0, J) ?_) ⟨rfl, rfl, rfl, rfl, rfl, trivial⟩ (HS.chunk (HS.cons rfl HS.last))
  · rintro ⟨k, J1⟩ ⟨hk, hQ1⟩ ih; dsimp only at hk hQ1 ih ⊢
    refine Zp 1 [] rfl ?_;refine GT_S rfl (V_lss rfl rfl rfl) ?_;refine Zz ?_;refine GE_cond rfl (fun h1 => ?_) (fun h1 => ?_)
    · have hkl : k < l.length := (by omega)
      refine GE_skip ?_;refine GE_seq ?_;refine GE_block ?_;refine Zp 2 [] rfl ?_;refine Zr 2 rfl ?_;refine GT_nil ?_;refine Zp 2 [] rfl ?_;refine GT_S rfl (V_build (vs := [_, _]) rfl rfl zc_271 pl_271 sa_271 rfl) ?_;refine Zv rfl ?_;refine GT_nil ?_;refine GE_block ?_;refine GE_to (GE_loop (ι := Nat × Items) (fun x => 2 - x.1) (fun x => [(0, .func (.yield lp) #[] #[]), (1, ptr bb 0), (3, I l.length), (4, I k), (17, I l.length), (18, I k), (21, .agg #[I 3, I 5]), (22, I x.1)]) (fun x => x.2 ++ (bb, blk [ptr bs 0] 182) :: G) (fun x => x.1 ≤ 2 ∧ Q (edgesTo b l k x.1) x.2) ?_ (0, J1) ?_) ⟨rfl, rfl, rfl, rfl, rfl, rfl, rfl, rfl, trivial⟩ (HS.chunk (HS.cons rfl HS.last))
      · rintro ⟨j, J2⟩ ⟨hj, hQ2⟩ ih2; dsimp only at hj hQ2 ih2 ⊢
        refine Zp 1 [] rfl ?_;refine GT_S rfl (V_lss rfl rfl rfl) ?_;refine Zz ?_;refine GE_cond rfl (fun h2 => ?_) (fun h2 => ?_)
        · have hjl : j < 2 := (by omega)
          refine GE_skip ?_;refine GE_seq ?_;refine GE_block ?_;refine Zp 2 [] rfl ?_;refine GT_S rfl (V_indexAgg rfl rfl rfl Tryz.underlying271 ag_3 sz_3 (kk := j) (v := I (ruleOf j)) rfl (by omega) (by rcases (show j = 0 ∨ j = 1 by omega) with rfl | rfl <;> rfl)) ?_;refine Zv rfl ?_;refine GT_nil ?_;refine Zp 10 [3, 7, 8] rfl ?_;refine Zl rfl ag_182 rfl ?_;refine Zr 2 rfl ?_;refine Zc rfl rn_104 (fun w hw => C_lathe_edge (hs.sh hw) (hp.sh hw) hb hl hpt) GR_nil ?_;refine Zr 3 rfl ?_;refine Zb rfl zc_235 fun b7 => ?_;refine ZS [_, _, _, _, _] [_, _, _, _, _] rfl rfl sz_235 rfl rfl rfl ?_;refine Zv rfl ?_;refine GT_nil ?_;refine Zq [0, 1, 3, 4, 7, 8, 17, 18, 21, 22] 7 [4] rfl rfl ?_;refine Zr 2 rfl ?_;refine GT_splitB (d := 33) rfl (fun hfl => ?_) (fun hfl => ?_)
          · have he := optE_true hfl
            refine Zv rfl ?_;refine ZN [_, _, _, _, _] rfl ag_235 sz_235 rfl rfl ?_;refine GT_yield_g rfl rfl rfl rfl rfl rfl rfl rfl rfl rfl (YieldTo.chunk (hY _ _ _ (by rw [← he, edgesTo_succ]; exact edgesTo_pre hkl (by omega)) hQ2 _)) (fun _ _ _ => GR_nil) (fun v H' hR => ?_)
            obtain ⟨J3, rfl, hQ3, rfl⟩ := hR; rw [← he, edgesTo_succ] at hQ3
            refine GT_S rfl (V_notB rfl rfl) ?_;refine Zv rfl ?_;refine GT_nil ?_;refine GE_condNotB rfl (fun hv => ?_) (fun hv => ?_)
            · cases hv
            · refine GE_skip ?_;refine GE_inBlock ?_;refine Zs [0, 1, 3, 4, 17, 18, 21, 22, 34, 35, 36, 37] rfl ?_;refine ZP 2 [1] rfl ?_;refine Za rfl (by omega) ?_;refine Zw rfl ?_;refine GT_nil ?_
              first
                | exact GE_to (ih2 (j + 1, J3) ⟨by dsimp only; omega, hQ3⟩ (by dsimp only; omega)) ⟨rfl, rfl, rfl, rfl, rfl, rfl, rfl, rfl, trivial⟩ (HS.chunk (HS.cons rfl HS.last))
                | exact GE_to (ih2 (j + 1, J2) ⟨by dsimp only; omega, hQ3⟩ (by dsimp only; omega)) ⟨rfl, rfl, rfl, rfl, rfl, rfl, rfl, rfl, trivial⟩ (HS.chunk (HS.cons rfl HS.last))
          · have hQ3 : Q (edgesTo b l k (j + 1)) J2 := (by rw [← edgesTo_succ, optE_false hfl, List.append_nil]; exact hQ2)
            refine Zr 2 rfl ?_;refine GT_skip_ld rfl rfl rfl rfl rfl (by decide) rfl rfl rfl GR_nil ?_;refine Zr 2 rfl ?_;refine GT_nil ?_;refine GE_cond_f rfl ?_;refine GE_skip ?_;refine GE_inBlock ?_;refine Zs [0, 1, 3, 4, 17, 18, 21, 22, 34, 35, 36, 37] rfl ?_;refine ZP 2 [1] rfl ?_;refine Za rfl (by omega) ?_;refine Zw rfl ?_;refine GT_nil ?_
            first
              | exact GE_to (ih2 (j + 1, J3) ⟨by dsimp only; omega, hQ3⟩ (by dsimp only; omega)) ⟨rfl, rfl, rfl, rfl, rfl, rfl, rfl, rfl, trivial⟩ (HS.chunk (HS.cons rfl HS.last))
              | exact GE_to (ih2 (j + 1, J2) ⟨by dsimp only; omega, hQ3⟩ (by dsimp only; omega)) ⟨rfl, rfl, rfl, rfl, rfl, rfl, rfl, rfl, trivial⟩ (HS.chunk (HS.cons rfl HS.last))
        · have hj2 : j = 2 := (by omega)
          refine GE_exit rfl ?_;refine GE_inBlock ?_;refine Zs [0, 1, 3, 17, 18] rfl ?_;refine ZP 2 [1] rfl ?_;refine Za rfl (by omega) ?_;refine Zw rfl ?_;refine GT_nil ?_
          exact GE_to (ih (k + 1, J2) ⟨by dsimp only; omega, by rw [← edgesTo_two, ← hj2]; exact hQ2⟩ (by dsimp only; omega)) ⟨rfl, rfl, rfl, rfl, rfl, trivial⟩ (HS.chunk (HS.cons rfl HS.last))
      · exact ⟨Nat.zero_le _, hQ1⟩
    · obtain rfl : k = l.length := (by omega); have hQe : Q (edgesOut b l 0) J1 := (by simpa [edgesOut, edgesTo] using hQ1)
      refine GE_exit rfl ?_;refine Zp 3 [] rfl ?_;refine Zv rfl ?_;refine Za rfl (by omega) ?_;refine Zv rfl ?_;refine GT_nil ?_;refine GE_block ?_;refine GE_to (GE_loop (ι := Nat × Items) (fun x => l.length - x.1) (fun x => [(0, .func (.yield lp) #[] #[]), (1, ptr bb 0), (9, I ((l.length : Int) - 1 - x.1))]) (fun x => x.2 ++ (bb, blk [ptr bs 0] 182) :: G) (fun x => x.1 ≤ l.length ∧ Q (edgesOut b l x.1) x.2) ?_ (0, J1) ?_) ⟨rfl, rfl, lookI rfl (by dsimp only; omega), trivial⟩ (HS.chunk (HS.cons rfl HS.last))
      · rintro ⟨d, J2⟩ ⟨hd, hQ2⟩ ih2; dsimp only at hd hQ2 ih2 ⊢
        refine GE_seq ?_;refine Zp 2 [] rfl ?_;refine Zv rfl ?_;refine GT_S rfl (V_gtr rfl rfl rfl) ?_;refine GT_nil ?_;refine GE_cond rfl (fun h3 => ?_) (fun h3 => ?_)
        · have hdl : d + 1 < l.length := (by omega)
          refine GE_skip ?_;refine GE_seq ?_;refine GE_block ?_;refine Zp 9 [2, 6, 7] rfl ?_;refine Zl rfl ag_182 rfl ?_;refine Zv rfl ?_;refine Zc rfl rn_104 (fun w hw => C_lathe_edge (hs.sh hw) (hp.sh hw) hb hl hpt) GR_nil ?_;refine Zr 3 rfl ?_;refine Zb rfl zc_235 fun b10 => ?_;refine ZS [_, _, _, _, _] [_, _, _, _, _] rfl rfl sz_235 rfl rfl rfl ?_;refine Zv rfl ?_;refine GT_nil ?_;refine Zq [0, 1, 9, 10, 11] 7 [4] rfl rfl ?_;refine Zr 2 rfl ?_;refine GT_splitB (d := 54) rfl (fun hfl => ?_) (fun hfl => ?_)
          · have he := optE_true hfl
            refine Zv rfl ?_;refine ZN [_, _, _, _, _] rfl ag_235 sz_235 rfl rfl ?_;refine GT_yield_g rfl rfl rfl rfl rfl rfl rfl rfl rfl rfl (YieldTo.chunk (hY _ _ _ (by rw [← he, edgesOut_succ hdl]; exact edgesOut_pre) hQ2 _)) (fun _ _ _ => GR_nil) (fun v H' hR => ?_)
            obtain ⟨J3, rfl, hQ3, rfl⟩ := hR; rw [← he, edgesOut_succ hdl] at hQ3
            refine GT_S rfl (V_notB rfl rfl) ?_;refine Zv rfl ?_;refine GT_nil ?_;refine GE_condNotB rfl (fun hv => ?_) (fun hv => ?_)
            · cases hv
            · refine GE_skip ?_;refine GE_inBlock ?_;refine Zs [0, 1, 9, 55, 56, 57, 58] rfl ?_;refine ZP 3 [2] rfl ?_;refine Zv rfl ?_;refine Za rfl (by omega) ?_;refine Zw rfl ?_;refine GT_nil ?_
              first
                | exact GE_to (ih2 (d + 1, J3) ⟨by dsimp only; omega, hQ3⟩ (by dsimp only; omega)) ⟨rfl, rfl, lookI rfl (by dsimp only; omega), trivial⟩ (HS.chunk (HS.cons rfl HS.last))
                | exact GE_to (ih2 (d + 1, J2) ⟨by dsimp only; omega, hQ3⟩ (by dsimp only; omega)) ⟨rfl, rfl, lookI rfl (by dsimp only; omega), trivial⟩ (HS.chunk (HS.cons rfl HS.last))
          · have hQ3 : Q (edgesOut b l (d + 1)) J2 := (by rw [← edgesOut_succ hdl, optE_false hfl, List.append_nil]; exact hQ2)
            refine Zr 2 rfl ?_;refine GT_skip_ld rfl rfl rfl rfl rfl (by decide) rfl rfl rfl GR_nil ?_;refine Zr 2 rfl ?_;refine GT_nil ?_;refine GE_cond_f rfl ?_;refine GE_skip ?_;refine GE_inBlock ?_;refine Zs [0, 1, 9, 55, 56, 57, 58] rfl ?_;refine ZP 3 [2] rfl ?_;refine Zv rfl ?_;refine Za rfl (by omega) ?_;refine Zw rfl ?_;refine GT_nil ?_
            first
              | exact GE_to (ih2 (d + 1, J3) ⟨by dsimp only; omega, hQ3⟩ (by dsimp only; omega)) ⟨rfl, rfl, lookI rfl (by dsimp only; omega), trivial⟩ (HS.chunk (HS.cons rfl HS.last))
              | exact GE_to (ih2 (d + 1, J2) ⟨by dsimp only; omega, hQ3⟩ (by dsimp only; omega)) ⟨rfl, rfl, lookI rfl (by dsimp only; omega), trivial⟩ (HS.chunk (HS.cons rfl HS.last))
        · rw [edgesOut_end (by omega)] at hQ2
          refine GE_exit rfl ?_;refine GE_end Tryz.func125 rfl (fun w hw => ⟨J2, hQ2, hw⟩)
          skip
      · exact ⟨Nat.zero_le _, hQe⟩
  · exact ⟨Nat.zero_le _, hQ⟩
end Go.Proofs.YtncleikbggjmjaaGreatDoor.Lathe
/- Edges that are relaxed in rounds, in plain Lean: what the rounds keep. -/
namespace Go.Proofs.YtncleikbggjmjaaGreatDoor.Lathe
open Go.Sx
theorem pigeon : ∀ (n : Nat) (f : Nat → Nat), (∀ i, i ≤ n → f i < n) → ∃ i j, i < j ∧ j ≤ n ∧ f i = f j
  | 0, f, h => absurd (h 0 (Nat.le_refl _)) (by omega)
  | n + 1, f, h => by
    by_cases he : ∃ i, i ≤ n ∧ f i = f (n + 1)
    · obtain ⟨i, hi, e⟩ := he
      exact ⟨i, n + 1, by omega, by omega, e⟩
    · have hne : ∀ i, i ≤ n → f i ≠ f (n + 1) := fun i hi e => he ⟨i, hi, e⟩
      obtain ⟨i, j, hij, hj, e⟩ := pigeon n (fun i => if f i = n then f (n + 1) else f i) (by
        intro i hi
        have h1 := h i (by omega)
        have h2 := h (n + 1) (by omega)
        have h3 := hne i hi
        split <;> omega)
      refine ⟨i, j, hij, by omega, ?_⟩
      have h1 := hne i (by omega)
      have h2 := hne j hj
      split at e <;> split at e <;> omega
section
variable {E : List Edge} {n : Nat}
def R (s : Srch) (i : Int) : Int := s.r.getD i.toNat default
def Lst (s : Srch) (i : Int) : Edge := s.last.getD i.toNat default
def In (n : Nat) (i : Int) : Prop := 0 ≤ i ∧ i < (n : Int)
def Edges (n : Nat) (E : List Edge) : Prop := ∀ x ∈ E, In n x.frm ∧ In n x.to ∧ x.frm ≠ x.to
theorem relax_no {s : Srch} {x : Edge} (h : R s x.to ≤ R s x.frm + x.wt) : relax s x = s := by unfold relax; exact if_pos h
theorem relax_yes {s : Srch} {x : Edge} (h : ¬ R s x.to ≤ R s x.frm + x.wt) : relax s x = ⟨s.r.set x.to.toNat (R s x.frm + x.wt), s.last.set x.to.toNat x, x.to⟩ := by unfold relax; exact if_neg h
theorem relax_rlen (s : Srch) (x : Edge) : (relax s x).r.length = s.r.length := by unfold relax; split <;> simp
theorem relax_llen (s : Srch) (x : Edge) : (relax s x).last.length = s.last.length := by unfold relax; split <;> simp
theorem foldl_rlen : ∀ (E : List Edge) (s : Srch), (E.foldl relax s).r.length = s.r.length
  | [], _ => rfl
  | x :: E, s => by rw [List.foldl_cons, foldl_rlen E, relax_rlen]
theorem foldl_llen : ∀ (E : List Edge) (s : Srch), (E.foldl relax s).last.length = s.last.length
  | [], _ => rfl
  | x :: E, s => by rw [List.foldl_cons, foldl_llen E, relax_llen]
theorem R_set {s : Srch} {c v : Int} {y : Int} {L : List Edge} {i : Int} (hc : In n c) (hn : s.r.length = n) (hi : In n i) : R ⟨s.r.set c.toNat y, L, v⟩ i = if i = c then y else R s i := by
  unfold In at *
  simp only [R, List.getD, List.getElem?_set]
  by_cases h : i = c
  · subst h; rw [if_pos rfl, if_pos (by omega), if_pos rfl]; rfl
  · rw [if_neg (by omega), if_neg h]
theorem Lst_set {s : Srch} {c v : Int} {y : Edge} {L : List Int} {i : Int} (hc : In n c) (hn : s.last.length = n) (hi : In n i) : Lst ⟨L, s.last.set c.toNat y, v⟩ i = if i = c then y else Lst s i := by
  unfold In at *
  simp only [Lst, List.getD, List.getElem?_set]
  by_cases h : i = c
  · subst h; rw [if_pos rfl, if_pos (by omega), if_pos rfl]; rfl
  · rw [if_neg (by omega), if_neg h]
structure Inv (n : Nat) (E : List Edge) (r0 : Int → Int) (e0 : Int → Edge) (s : Srch) (p t : Nat) (pre : List Edge) (rho tau : Int → Nat) : Prop where
  rl : s.r.length = n
  ll : s.last.length = n
  zero : ∀ i, In n i → rho i = 0 → Lst s i = e0 i ∧ R s i = r0 i
  anc : ∀ i, In n i → 0 < rho i → Lst s i ∈ E ∧ (Lst s i).to = i ∧ R s (Lst s i).frm + (Lst s i).wt ≤ R s i ∧ (R s i = R s (Lst s i).frm + (Lst s i).wt → tau (Lst s i).frm < tau i) ∧ rho i ≤ rho (Lst s i).frm + 1
  top : ∀ i, In n i → rho i ≤ p + 1 ∧ tau i ≤ t
  old : ∀ x ∈ E, R s x.to ≤ R s x.frm + x.wt ∨ p ≤ rho x.frm
  new : ∀ x ∈ pre, R s x.to ≤ R s x.frm + x.wt ∨ p + 1 ≤ rho x.frm
  ch : (s.ch = -1 ∧ ∀ i, In n i → rho i ≤ p) ∨ (In n s.ch ∧ rho s.ch = p + 1)
theorem Inv.step {r0 : Int → Int} {e0 : Int → Edge} {s : Srch} {p t : Nat} {pre : List Edge} {rho tau : Int → Nat} (h : Inv n E r0 e0 s p t pre rho tau) (hE : Edges n E) (hpre : ∀ y ∈ pre, y ∈ E) {x : Edge} (hx : x ∈ E) : ∃ rho tau, Inv n E r0 e0 (relax s x) p (t + 1) (pre ++ [x]) rho tau := by
  obtain ⟨hf, ht, hne⟩ := hE x hx
  by_cases hr : R s x.to ≤ R s x.frm + x.wt
  · rw [relax_no hr]
    refine ⟨rho, tau, h.rl, h.ll, h.zero, h.anc, fun i hi => ?_, h.old, fun y hy => ?_, h.ch⟩
    · have := h.top i hi; omega
    · rw [List.mem_append, List.mem_singleton] at hy
      rcases hy with hy | rfl
      · exact h.new y hy
      · exact .inl hr
  · rw [relax_yes hr]
    have hR := fun (i : Int) (hi : In n i) => R_set (s := s) (v := x.to) (y := R s x.frm + x.wt) (L := s.last.set x.to.toNat x) ht h.rl hi
    have hL := fun (i : Int) (hi : In n i) => Lst_set (s := s) (v := x.to) (y := x) (L := s.r.set x.to.toNat (R s x.frm + x.wt)) ht h.ll hi
    have hpx : p ≤ rho x.frm := (h.old x hx).resolve_left hr
    have hle : ∀ i, In n i → R ⟨s.r.set x.to.toNat (R s x.frm + x.wt), s.last.set x.to.toNat x, x.to⟩ i ≤ R s i := by
      intro i hi; rw [hR i hi]; split
      · rename_i e; subst e; omega
      · omega
    refine ⟨fun i => if i = x.to then p + 1 else rho i, fun i => if i = x.to then t + 1 else tau i, by simp [h.rl], by simp [h.ll], fun i hi h0 => ?_, fun i hi h0 => ?_, fun i hi => ?_, fun y hy => ?_, fun y hy => ?_, .inr ⟨ht, if_pos rfl⟩⟩
    · by_cases e : i = x.to
      · simp [e] at h0
      · simp only [e, if_false] at h0
        rw [hL i hi, hR i hi, if_neg e, if_neg e]
        exact h.zero i hi h0
    · by_cases e : i = x.to
      · subst e
        rw [hL _ hi, if_pos rfl, hR _ hi, if_pos rfl, hR _ hf, if_neg hne]
        simp only [if_true, hne, if_false]
        have := (h.top x.frm hf).2
        exact ⟨hx, trivial, Int.le_refl _, fun _ => by omega, by omega⟩
      · simp only [e, if_false] at h0 ⊢
        rw [hL i hi, if_neg e, hR i hi, if_neg e]
        obtain ⟨h1, h2, h3, h4, h5⟩ := h.anc i hi h0
        obtain ⟨g1, g2, g3⟩ := hE _ h1
        refine ⟨h1, h2, ?_, fun he => ?_, ?_⟩
        · have := hle _ g1; omega
        · rw [hR _ g1] at he
          by_cases e2 : (Lst s i).frm = x.to
          · rw [if_pos e2] at he; rw [e2] at h3; omega
          · rw [if_neg e2] at he ⊢; exact h4 he
        · by_cases e2 : (Lst s i).frm = x.to
          · rw [if_pos e2]; have := (h.top i hi).1; omega
          · rw [if_neg e2]; exact h5
    · by_cases e : i = x.to
      · simp [e]
      · simp only [e, if_false]; have := h.top i hi; omega
    · obtain ⟨g1, g2, g3⟩ := hE _ hy
      by_cases e : y.frm = x.to
      · right; simp [e]
      · simp only [e, if_false]
        rw [hR _ g1, if_neg e]
        have := hle _ g2
        rcases h.old y hy with h1 | h1
        · left; omega
        · exact .inr h1
    · rw [List.mem_append, List.mem_singleton] at hy
      rcases hy with hy | rfl
      · obtain ⟨g1, g2, g3⟩ := hE _ (hpre y hy)
        by_cases e : y.frm = x.to
        · right; simp [e]
        · simp only [e, if_false]
          rw [hR _ g1, if_neg e]
          have := hle _ g2
          rcases h.new y hy with h1 | h1
          · left; omega
          · exact .inr h1
      · left
        rw [hR _ ht, if_pos rfl, hR _ hf, if_neg hne]; omega
theorem Inv.steps {r0 : Int → Int} {e0 : Int → Edge} (hE : Edges n E) : ∀ (post : List Edge) {s : Srch} {p t : Nat} {pre : List Edge} {rho tau : Int → Nat}, Inv n E r0 e0 s p t pre rho tau → pre ++ post = E → ∃ rho tau, Inv n E r0 e0 (post.foldl relax s) p (t + post.length) E rho tau
  | [], s, p, t, pre, rho, tau, h, e => by rw [List.append_nil] at e; subst e; exact ⟨rho, tau, h⟩
  | x :: post, s, p, t, pre, rho, tau, h, e => by
    have hx : x ∈ E := by rw [← e]; simp
    obtain ⟨rho1, tau1, h1⟩ := h.step hE (fun y hy => by rw [← e]; exact List.mem_append_left _ hy) hx
    obtain ⟨rho2, tau2, h2⟩ := Inv.steps hE post h1 (by simpa using e)
    exact ⟨rho2, tau2, by rw [List.foldl_cons, List.length_cons, show t + (post.length + 1) = t + 1 + post.length by omega]; exact h2⟩
theorem Inv.round {r0 : Int → Int} {e0 : Int → Edge} {s : Srch} {p t : Nat} {rho tau : Int → Nat} (hE : Edges n E) (h : Inv n E r0 e0 s p t [] rho tau) : ∃ rho tau, Inv n E r0 e0 (E.foldl relax s) p (t + E.length) E rho tau := Inv.steps hE E h rfl
theorem Inv.next {r0 : Int → Int} {e0 : Int → Edge} {s : Srch} {p t : Nat} {rho tau : Int → Nat} (h : Inv n E r0 e0 s p t E rho tau) : Inv n E r0 e0 ⟨s.r, s.last, -1⟩ (p + 1) t [] rho tau :=
  ⟨h.rl, h.ll, h.zero, h.anc, fun i hi => by have := h.top i hi; omega, h.new, (fun y hy => by cases hy), .inl ⟨rfl, fun i hi => (h.top i hi).1⟩⟩
theorem Inv.settled {r0 : Int → Int} {e0 : Int → Edge} {s : Srch} {p t : Nat} {rho tau : Int → Nat} (hE : Edges n E) (h : Inv n E r0 e0 s p t E rho tau) (hc : s.ch = -1) : ∀ x ∈ E, R s x.to ≤ R s x.frm + x.wt := by
  intro x hx
  rcases h.ch with ⟨_, h1⟩ | ⟨h1, _⟩
  · rcases h.new x hx with h2 | h2
    · exact h2
    · have := h1 _ (hE x hx).1; omega
  · rw [hc] at h1; unfold In at h1; omega
def wsum (last : List Edge) (v : Int) : Nat → Int
  | 0 => 0
  | m + 1 => wsum last v m + (last.getD (back last m v).toNat default).wt
theorem wsum_shift (last : List Edge) (v : Int) (hb : ∀ (k : Nat) (v : Int), back last (k + 1) v = back last k (par last v)) : ∀ m, wsum last v (m + 1) = (last.getD v.toNat default).wt + wsum last (par last v) m
  | 0 => by simp [wsum, back]
  | m + 1 => by
    have ih := wsum_shift last v hb m
    have e : wsum last v (m + 1 + 1) = wsum last v (m + 1) + (last.getD (back last (m + 1) v).toNat default).wt := rfl
    have e2 : wsum last (par last v) (m + 1) = wsum last (par last v) m + (last.getD (back last m (par last v)).toNat default).wt := rfl
    rw [e, ih, hb, e2]; omega
theorem Inv.way {r0 : Int → Int} {e0 : Int → Edge} {s : Srch} {p t : Nat} {rho tau : Int → Nat} (hE : Edges n E) (h : Inv n E r0 e0 s p t E rho tau) (hs : ∀ x ∈ E, R s x.to ≤ R s x.frm + x.wt) (he0 : ∀ i, (e0 i).frm = -1) (he1 : ∀ i, (e0 i).wt = r0 i) :
    ∀ (T : Nat) (v : Int), In n v → tau v ≤ T → ∃ m, m ≤ T + 1 ∧ 0 < m ∧ back s.last m v = -1 ∧ (∀ i, i < m → In n (back s.last i v)) ∧ (∀ i, i + 1 < m → Lst s (back s.last i v) ∈ E) ∧ Lst s (back s.last (m - 1) v) = e0 (back s.last (m - 1) v) ∧ wsum s.last v m ≤ R s v ∧ (∀ i, i + 1 < m → (Lst s (back s.last i v)).to = back s.last i v) := by
  have hb : ∀ (k : Nat) (v : Int), back s.last (k + 1) v = back s.last k (par s.last v) := by
    intro k v
    induction k with
    | zero => rfl
    | succ k ih => rw [back, ih, back]
  intro T
  induction T using Nat.strongRecOn with
  | _ T ih =>
    intro v hv hT
    by_cases h0 : rho v = 0
    · have := (h.zero v hv h0).1
      have hfr : par s.last v = -1 := by unfold par; show (Lst s v).frm = -1; rw [this, he0]
      refine ⟨1, by omega, by omega, hfr, fun i hi => ?_, fun i hi => by omega, this, ?_, fun i hi => by omega⟩
      · obtain rfl : i = 0 := by omega
        exact hv
      · have e : wsum s.last v 1 = 0 + (Lst s v).wt := rfl
        rw [e, this, he1, (h.zero v hv h0).2]; omega
    · obtain ⟨h1, h2, h3, h4, h5⟩ := h.anc v hv (by omega)
      have hle := hs _ h1
      rw [h2] at hle
      have htau := h4 (by omega)
      have hin := (hE _ h1).1
      have ep : par s.last v = (Lst s v).frm := rfl
      obtain ⟨m, hm, hm0, g1, g2, g3, g4, g5, g6⟩ := ih (tau (Lst s v).frm) (by omega) (Lst s v).frm hin (Nat.le_refl _)
      refine ⟨m + 1, by omega, by omega, by rw [hb, ep]; exact g1, fun i hi => ?_, fun i hi => ?_, ?_, ?_, fun i hi => ?_⟩
      · cases i with
        | zero => exact hv
        | succ i => rw [hb, ep]; exact g2 i (by omega)
      · cases i with
        | zero => exact h1
        | succ i => rw [hb, ep]; exact g3 i (by omega)
      · obtain ⟨q, rfl⟩ : ∃ q, m = q + 1 := ⟨m - 1, by omega⟩
        simp only [Nat.add_sub_cancel] at g4 ⊢
        rw [hb, ep]; exact g4
      · rw [wsum_shift _ _ hb, ep]
        have e : (s.last.getD v.toNat default) = Lst s v := rfl
        rw [e]; omega
      · cases i with
        | zero => exact h2
        | succ i => rw [hb, ep]; exact g6 i (by omega)
theorem Inv.late {r0 : Int → Int} {e0 : Int → Edge} {s : Srch} {p t : Nat} {rho tau : Int → Nat} (hE : Edges n E) (h : Inv n E r0 e0 s p t E rho tau) {v : Int} (hv : In n v) (hr : rho v = p + 1) : ∀ i, i ≤ p + 1 → In n (back s.last i v) ∧ p + 1 ≤ rho (back s.last i v) + i
  | 0, _ => ⟨hv, by show p + 1 ≤ rho v + 0; omega⟩
  | i + 1, hi => by
    obtain ⟨h1, h2⟩ := Inv.late hE h hv hr i (by omega)
    obtain ⟨g1, g2, g3, g4, g5⟩ := h.anc _ h1 (by omega)
    have ep : back s.last (i + 1) v = (Lst s (back s.last i v)).frm := rfl
    rw [ep]
    exact ⟨(hE _ g1).1, by omega⟩
theorem back_add (last : List Edge) (v : Int) (i : Nat) : ∀ k, back last (i + k) v = back last k (back last i v)
  | 0 => rfl
  | k + 1 => congrArg (par last) (back_add last v i k)
theorem Inv.circle {r0 : Int → Int} {e0 : Int → Edge} {s : Srch} {p t : Nat} {rho tau : Int → Nat} (hE : Edges n E) (h : Inv n E r0 e0 s p t E rho tau) (hp : n ≤ p) (hc : s.ch ≠ -1) :
    (∀ i, In n (back s.last i s.ch)) ∧ (∀ i, Lst s (back s.last i s.ch) ∈ E ∧ R s (back s.last (i + 1) s.ch) + (Lst s (back s.last i s.ch)).wt ≤ R s (back s.last i s.ch) ∧ (R s (back s.last i s.ch) = R s (back s.last (i + 1) s.ch) + (Lst s (back s.last i s.ch)).wt → tau (back s.last (i + 1) s.ch) < tau (back s.last i s.ch))) ∧
    ∃ m, 0 < m ∧ m ≤ n ∧ back s.last m (back s.last n s.ch) = back s.last n s.ch := by
  obtain ⟨hv, hr⟩ : In n s.ch ∧ rho s.ch = p + 1 := by
    rcases h.ch with ⟨h1, _⟩ | h1
    · exact absurd h1 hc
    · exact h1
  generalize s.ch = v at *
  have hl := h.late hE hv hr
  obtain ⟨i, j, hij, hj, e⟩ := pigeon n (fun i => (back s.last i v).toNat) (by
    intro i hi
    have := (hl i (by omega)).1
    unfold In at this
    omega)
  have e' : back s.last i v = back s.last j v := by
    have h1 := (hl i (by omega)).1
    have h2 := (hl j (by omega)).1
    unfold In at h1 h2
    omega
  have hper : ∀ k, i ≤ k → back s.last (k + (j - i)) v = back s.last k v := by
    intro k hk
    obtain ⟨q, rfl⟩ : ∃ q, k = i + q := ⟨k - i, by omega⟩
    rw [show i + q + (j - i) = j + q by omega, back_add, ← e', ← back_add]
  have hred : ∀ k, ∃ q, q ≤ n ∧ back s.last k v = back s.last q v := by
    intro k
    induction k using Nat.strongRecOn with
    | _ k ih =>
      by_cases hk : k ≤ n
      · exact ⟨k, hk, rfl⟩
      · obtain ⟨q, hq, hq2⟩ := ih (k - (j - i)) (by omega)
        refine ⟨q, hq, ?_⟩
        rw [← hq2, ← hper (k - (j - i)) (by omega)]
        congr 1; omega
  have hpos : ∀ k, In n (back s.last k v) ∧ 0 < rho (back s.last k v) := by
    intro k
    obtain ⟨q, hq, e2⟩ := hred k
    rw [e2]
    have := hl q (by omega)
    exact ⟨this.1, by omega⟩
  refine ⟨fun k => (hpos k).1, fun k => ?_, j - i, by omega, by omega, ?_⟩
  · obtain ⟨g1, g2, g3, g4, g5⟩ := h.anc _ (hpos k).1 (hpos k).2
    exact ⟨g1, g3, g4⟩
  · rw [← back_add]; exact hper n (by omega)
theorem Inv.below {s : Srch} {tau : Int → Nat} {v : Int} (h : ∀ i, R s (back s.last (i + 1) v) + (Lst s (back s.last i v)).wt ≤ R s (back s.last i v) ∧ (R s (back s.last i v) = R s (back s.last (i + 1) v) + (Lst s (back s.last i v)).wt → tau (back s.last (i + 1) v) < tau (back s.last i v))) :
    ∀ m, wsum s.last v m ≤ R s v - R s (back s.last m v) ∧ (wsum s.last v m = R s v - R s (back s.last m v) → tau (back s.last m v) + m ≤ tau v)
  | 0 => ⟨by simp [wsum, back], fun _ => by simp [back]⟩
  | m + 1 => by
    obtain ⟨h1, h2⟩ := Inv.below h m
    obtain ⟨g1, g2⟩ := h m
    have e : wsum s.last v (m + 1) = wsum s.last v m + (Lst s (back s.last m v)).wt := rfl
    rw [e]
    refine ⟨by omega, fun he => ?_⟩
    have := g2 (by omega)
    have := h2 (by omega)
    omega
theorem circle_below {s : Srch} {tau : Int → Nat} {v : Int} (h : ∀ i, R s (back s.last (i + 1) v) + (Lst s (back s.last i v)).wt ≤ R s (back s.last i v) ∧ (R s (back s.last i v) = R s (back s.last (i + 1) v) + (Lst s (back s.last i v)).wt → tau (back s.last (i + 1) v) < tau (back s.last i v)))
    {m : Nat} (hm : 0 < m) (hb : back s.last m v = v) : wsum s.last v m < 0 := by
  obtain ⟨h1, h2⟩ := Inv.below h m
  rw [hb] at h1 h2
  rcases Int.lt_or_eq_of_le h1 with h3 | h3
  · omega
  · have := h2 h3; omega
theorem relax_above {r' : Int → Int} {s : Srch} {x : Edge} (hn : s.r.length = n) (hx : In n x.frm ∧ In n x.to ∧ x.frm ≠ x.to) (hr : r' x.to ≤ r' x.frm + x.wt) (h : ∀ i, In n i → r' i ≤ R s i) : ∀ i, In n i → r' i ≤ R (relax s x) i := by
  intro i hi
  by_cases hc : R s x.to ≤ R s x.frm + x.wt
  · rw [relax_no hc]; exact h i hi
  · rw [relax_yes hc, R_set hx.2.1 hn hi]
    split
    · rename_i e; subst e; have := h _ hx.1; omega
    · exact h i hi
theorem foldl_above {r' : Int → Int} : ∀ (E : List Edge) (s : Srch), s.r.length = n → Edges n E → (∀ x ∈ E, r' x.to ≤ r' x.frm + x.wt) → (∀ i, In n i → r' i ≤ R s i) → ∀ i, In n i → r' i ≤ R (E.foldl relax s) i
  | [], s, hn, hE, hr, h => h
  | x :: E, s, hn, hE, hr, h => by
    rw [List.foldl_cons]
    exact foldl_above E _ (by rw [relax_rlen, hn]) (fun y hy => hE y (List.mem_cons_of_mem _ hy)) (fun y hy => hr y (List.mem_cons_of_mem _ hy)) (relax_above hn (hE x (List.mem_cons_self ..)) (hr x (List.mem_cons_self ..)) h)
theorem relax_below {s : Srch} {x : Edge} (hn : s.r.length = n) (hx : In n x.to) : ∀ i, In n i → R (relax s x) i ≤ R s i := by
  intro i hi
  by_cases hc : R s x.to ≤ R s x.frm + x.wt
  · rw [relax_no hc]; exact Int.le_refl _
  · rw [relax_yes hc, R_set hx hn hi]
    split
    · rename_i e; subst e; omega
    · exact Int.le_refl _
theorem foldl_below : ∀ (E : List Edge) (s : Srch), s.r.length = n → Edges n E → ∀ i, In n i → R (E.foldl relax s) i ≤ R s i
  | [], s, hn, hE => fun i _ => Int.le_refl _
  | x :: E, s, hn, hE => fun i hi => by
    rw [List.foldl_cons]
    exact Int.le_trans (foldl_below E _ (by rw [relax_rlen, hn]) (fun y hy => hE y (List.mem_cons_of_mem _ hy)) i hi) (relax_below hn (hE x (List.mem_cons_self ..)).2.1 i hi)
theorem kept_sum {r' : Int → Int} {s : Srch} {v : Int} (hr : ∀ x ∈ E, r' x.to ≤ r' x.frm + x.wt) : ∀ m, (∀ i, i < m → Lst s (back s.last i v) ∈ E ∧ (Lst s (back s.last i v)).to = back s.last i v) → r' v ≤ r' (back s.last m v) + wsum s.last v m
  | 0, _ => by simp [back, wsum]
  | m + 1, h => by
    have h1 := kept_sum hr m (fun i hi => h i (by omega))
    obtain ⟨h2, h3⟩ := h m (by omega)
    have := hr _ h2
    rw [h3] at this
    have e : wsum s.last v (m + 1) = wsum s.last v m + (Lst s (back s.last m v)).wt := rfl
    have e2 : back s.last (m + 1) v = (Lst s (back s.last m v)).frm := rfl
    rw [e, e2]
    omega
end
end Go.Proofs.YtncleikbggjmjaaGreatDoor.Lathe
