/- lathe: the search, walked -/
import Derived.Test.YtacmnmcaeflflaaLa5
import Derived.Test.YtacmnmcaeflflaaLaU
namespace Go.Proofs.Ytacmnmcaeflflaa
open Go.Sx Go.Proofs

/-- What the search finds: radii, or steps that prove that there are none. -/
def Search (b : Blank) (l : List Pt) (rad : List Int) (st : List Stp) : Prop :=
  ((settled b l).ch ≠ -1 ∧ rad = [] ∧ ∃ m, Circ (settled b l).last (back (settled b l).last l.length (settled b l).ch) m ∧ st = (csteps (settled b l).last (back (settled b l).last l.length (settled b l).ch) m).reverse) ∨
  ((settled b l).ch = -1 ∧ rad = [] ∧ ∃ i : Nat, i < l.length ∧ (settled b l).r.getD i default + (edgeOf b l 2 i).1.wt < 0 ∧ ∃ m, Way b l (settled b l) i m ∧ st = (wsteps (settled b l).last (edgeOf b l 2 i).1 m).reverse) ∨
  ((settled b l).ch = -1 ∧ rad = (settled b l).r ∧ st = [] ∧ ∀ i : Nat, i < l.length → 0 ≤ (settled b l).r.getD i default + (edgeOf b l 2 i).1.wt)

theorem start_of {b : Blank} {l : List Pt} {r : List Int} (hr : r.length = l.length) (h : ∀ q, q < l.length → r.getD q default = b.rim - (l.getD q default).out) : r = start b l := by
  apply list_ext_getD (by rw [hr, start_length])
  intro q hq
  rw [hr] at hq
  rw [h q hq]; simp [start, List.getD, hq]
theorem rim_of {b : Blank} {l : List Pt} {r : List Edge} (hr : r.length = l.length) (h : ∀ q : Nat, q < l.length → r.getD q default = (edgeOf b l 1 q).1) : r = rimEdges b l := by
  apply list_ext_getD (by rw [hr, rimEdges_length])
  intro q hq
  rw [hr] at hq
  rw [h q hq]; simp [rimEdges, List.getD, hq]
theorem start_bd {b : Blank} {l : List Pt} (hb : b.ok = true) (hp : PtB l) : Bd (start b l) l.length (-16777216) := by
  rw [Blank.ok_iff] at hb
  intro q hq
  have := hp q hq
  simp only [start, List.getD, List.getElem?_map, List.getElem?_eq_getElem hq, Option.map_some, Option.getD_some] at this ⊢; omega

theorem j4 (a b c d : Nat × Obj) (I1 I2 G : Items) : (a :: b :: c :: d :: (I1 ++ I2)) ++ G = a :: b :: c :: d :: (I1 ++ (I2 ++ G)) := by simp
set_option maxRecDepth 10000 in
set_option maxHeartbeats 2000000 in
theorem C_lathe_search {b : Blank} {A : Option Addr} {l : List Pt} {c bs : Nat} {w : World} (hs : SideAt w bs b A l c) (hp : RdL w 2 ePt A l) (hb : b.ok = true) (hl : l.length ≤ 4096) (hpt : l.all ptOk = true) :
    Con Try.prog 39 [ptr bs 0] w (fun y : List Int × List Stp × (Option Addr × Nat × Items) × (Option Addr × Nat × Items) => Search b l y.1 y.2.1 ∧ Own 1 2 eI y.1 (.slice y.2.2.1.1 y.1.length y.2.2.1.2.1) y.2.2.1.2.2 ∧ Own 2 62 eStp y.2.1 (.slice y.2.2.2.1 y.2.1.length y.2.2.2.2.1) y.2.2.2.2.2)
      (fun y => .agg #[.slice y.2.2.1.1 y.1.length y.2.2.1.2.1, .slice y.2.2.2.1 y.2.1.length y.2.2.2.2.1]) (fun y => y.2.2.1.2.2 ++ y.2.2.2.2.2) := by
  have hpb := ptB_of hpt
  refine Ret_of (vs := [_]) hm none' Try.func39 rfl Try.ntmps39 rfl ?_
  dsimp only [slotsOf]
  refine GE_seq ?_
  refine GE_plain (.ld 0 [] .nil) rfl ?_
  refine GT_alloc rfl rfl rfl rfl rfl zc_70 (fun _ => GR_nil) (fun b2 => ?_)
  refine GT_nil ?_
  refine GE_seq ?_
  refine GE_plain (.st 0 (.st 1 (.st 2 (.st 3 (.st 4 (.st 5 .nil)))))) rfl ?_
  refine GT_st rfl rfl rfl rfl (V_move rfl rfl) ?_
  first | refine GT_st rfl rfl rfl rfl (V_nilCheck rfl rfl) ?_ | refine GT_st rfl rfl rfl rfl (V_nilCheck_func rfl rfl) ?_ | refine GT_st rfl rfl rfl rfl (V_nilCheck_yield rfl rfl) ?_
  first | refine GT_st rfl rfl rfl rfl (V_field rfl rfl fo_92_1) ?_ | refine GT_st rfl rfl rfl rfl (V_fieldA rfl rfl fo_92_1) ?_
  first | refine GT_st rfl rfl rfl rfl (V_load rfl rfl ag_24 (CellAt.item rfl)) ?_ | refine GT_st rfl rfl rfl rfl (V_load rfl rfl ag_24 (CellAt.old (hs.cell rfl) (noM _))) ?_
  refine GT_st rfl rfl rfl rfl (V_len rfl Try.underlying24 rfl) ?_
  refine GT_st rfl rfl rfl rfl (V_assign rfl rfl) ?_
  refine GT_nil ?_
  refine GE_cut (ι := Nat × Nat × Nat × Nat × Nat) (fun x => [(0, ptr bs 0), (2, ptr x.1 0), (3, I l.length), (4, ptr x.2.1 0), (5, ptr x.2.2.1 0)]) (fun x => [(x.2.2.2.1, blk ((List.replicate l.length [I 0]).flatten) 2), (x.2.2.2.2, blk ((List.replicate l.length [I 0, I 0, I 0, I 0, I 0]).flatten) 97), (x.2.1, blk [.slice (some ⟨x.2.2.2.1, 0, none⟩) l.length l.length] 25), (x.2.2.1, blk [.slice (some ⟨x.2.2.2.2, 0, none⟩) l.length l.length] 100), (x.1, blk [.slice none 0 0, .slice none 0 0] 70)]) (fun x => True) ?_ (fun hk => ?_)
  · rintro ⟨b2, b4, b5, br, bl⟩ -; dsimp only
    refine GE_seq ?_
    refine GE_seq ?_
    refine GE_plain (.st 0 (.st 1 .nil)) rfl ?_
    refine GT_st rfl rfl rfl rfl (V_move rfl rfl) ?_
    refine GT_st rfl rfl rfl rfl (V_move rfl rfl) ?_
    refine GT_nil ?_
    refine GE_block ?_
    refine GE_to (GE_loop (ι := Nat × List Int × List Edge × Items × Items) (fun x => l.length - x.1) (fun x => [(0, ptr bs 0), (2, ptr b2 0), (3, I l.length), (4, ptr b4 0), (5, ptr b5 0), (22, I l.length), (23, I x.1)]) (fun x => x.2.2.2.1 ++ (x.2.2.2.2 ++ [(b4, blk [.slice (some ⟨br, 0, none⟩) l.length l.length] 25), (b5, blk [.slice (some ⟨bl, 0, none⟩) l.length l.length] 100), (b2, blk [.slice none 0 0, .slice none 0 0] 70)])) (fun x => x.1 ≤ l.length ∧ x.2.1.length = l.length ∧ x.2.2.1.length = l.length ∧ (∀ q, q < x.1 → x.2.1.getD q default = b.rim - (l.getD q default).out) ∧ (∀ q : Nat, q < x.1 → x.2.2.1.getD q default = (edgeOf b l 1 q).1) ∧ Own 1 2 eI x.2.1 (.slice (some ⟨br, 0, none⟩) l.length l.length) x.2.2.2.1 ∧ Own 5 97 eEdge x.2.2.1 (.slice (some ⟨bl, 0, none⟩) l.length l.length) x.2.2.2.2) ?_ (0, List.replicate l.length 0, List.replicate l.length ⟨0, 0, 0, 0, 0⟩, [(br, blk ((List.replicate l.length [I 0]).flatten) 2)], [(bl, blk ((List.replicate l.length [I 0, I 0, I 0, I 0, I 0]).flatten) 97)]) ?_) ⟨rfl, rfl, rfl, rfl, rfl, rfl, rfl, trivial⟩ (show HS _ _ ([(br, blk ((List.replicate l.length [I 0]).flatten) 2)] ++ ([(bl, blk ((List.replicate l.length [I 0, I 0, I 0, I 0, I 0]).flatten) 97)] ++ [(b4, blk [.slice (some ⟨br, 0, none⟩) l.length l.length] 25), (b5, blk [.slice (some ⟨bl, 0, none⟩) l.length l.length] 100), (b2, blk [.slice none 0 0, .slice none 0 0] 70)])) from HS.cons rfl (HS.cons rfl (HS.cons rfl (HS.cons rfl (HS.cons rfl HS.nil)))))
    · rintro ⟨k, r, last, Ir, Il⟩ ⟨hk, hrl, hll, hrq, hlq, hOr, hOl⟩ ih; dsimp only at hk hrl hll hrq hlq hOr hOl ih ⊢
      refine GE_seq ?_
      refine GE_plain (.st 0 .nil) rfl ?_
      refine GT_st rfl rfl rfl rfl (V_lss rfl rfl rfl) ?_
      refine GT_nil ?_
      refine GE_seq ?_
      first | refine GE_condNot rfl (fun h1 => ?_) (fun h1 => ?_) | refine GE_cond rfl (fun h1 => ?_) (fun h1 => ?_) | refine GE_condNotB rfl (fun h1 => ?_) (fun h1 => ?_) | refine GE_condB rfl (fun h1 => ?_) (fun h1 => ?_)
      · have hkl : k < l.length := (by omega)
        refine GE_skip ?_
        refine GE_seq ?_
        refine GE_block ?_
        refine GE_seq ?_
        refine GE_plain (.st 0 (.st 1 .nil)) rfl ?_
        refine GT_st rfl rfl rfl rfl (V_move rfl rfl) ?_
        refine GT_st rfl rfl rfl rfl (V_assign rfl rfl) ?_
        refine GT_nil ?_
        refine GE_seq ?_
        refine GE_drawn (.st 0 (.st 1 (.st 2 (.st 3 (.ld 4 [0, 1] (.st 5 (.st 6 (.st 7 (.st 8 (.ld 9 [7] .nil)))))))))) [4, 9] (by decide +kernel) ?_
        first | refine GT_st rfl rfl rfl rfl (V_load rfl rfl ag_100 (CellAt.item rfl)) ?_ | refine GT_st rfl rfl rfl rfl (V_load rfl rfl ag_100 (CellAt.old (hs.cell rfl) (noM _))) ?_
        refine GT_st rfl rfl rfl rfl (V_move rfl rfl) ?_
        refine GT_st rfl rfl rfl rfl (V_move rfl rfl) ?_
        refine GT_st rfl rfl rfl rfl (V_move rfl rfl) ?_
        refine GT_call0 rfl rfl rfl rfl rfl rfl rfl rfl rn_57 (fun w hw => C_lathe_edge (hs.sh hw) (hp.sh hw) hb hl hpt) (GR_cons rfl rfl rfl rfl ((by first | exact V_load rfl rfl ag_100 (CellAt.item rfl) | exact V_load rfl rfl ag_100 (CellAt.old (hs.cell rfl) (noM _)))) (GR_cons rfl rfl rfl rfl (V_move rfl rfl) (GR_nil))) ?_
        refine GT_st rfl rfl rfl rfl (V_move rfl rfl) ?_
        refine GT_st rfl rfl rfl rfl (V_extract rfl rfl rfl) ?_
        refine GT_st rfl rfl rfl rfl (V_extract rfl rfl rfl) ?_
        refine GT_st rfl rfl rfl rfl (V_index rfl rfl rfl Try.underlying100 sz_97 (k := k) rfl (by omega) (hOl.isSome (k := k) (by omega))) ?_
        refine GT_storeOwn (enc := eEdge) (q := k) (xx := (edgeOf b l 1 k).1) rfl rfl rfl rfl rfl rfl rfl sz_97 hOl eEdge_len eEdge_one (by omega) (by decide) (fun _ _ => GR_cons rfl rfl rfl rfl (V_extract rfl rfl rfl) (GR_nil)) (fun I1 hO1 => ?_)
        refine GT_nil ?_
        refine GE_slots (L' := [(0, _), (2, _), (3, _), (4, _), (5, _), (6, _), (22, _), (23, _)]) ⟨rfl, rfl, rfl, rfl, rfl, rfl, rfl, rfl, trivial⟩ ?_
        refine GE_drawn (.st 0 (.st 1 (.st 2 (.st 3 (.st 4 (.st 5 (.st 6 (.st 7 (.ld 8 [] .nil))))))))) [8] (by decide +kernel) ?_
        first | refine GT_st rfl rfl rfl rfl (V_load rfl rfl ag_25 (CellAt.item rfl)) ?_ | refine GT_st rfl rfl rfl rfl (V_load rfl rfl ag_25 (CellAt.old (hs.cell rfl) (noM _))) ?_
        refine GT_st rfl rfl rfl rfl (V_move rfl rfl) ?_
        first | refine GT_st rfl rfl rfl rfl (V_load rfl rfl ag_100 (CellAt.item rfl)) ?_ | refine GT_st rfl rfl rfl rfl (V_load rfl rfl ag_100 (CellAt.old (hs.cell rfl) (noM _))) ?_
        refine GT_st rfl rfl rfl rfl (V_move rfl rfl) ?_
        refine GT_st rfl rfl rfl rfl (V_index rfl rfl rfl Try.underlying100 sz_97 (k := k) rfl (by omega) (hOl.isSome (k := k) (by omega))) ?_
        first | refine GT_st rfl rfl rfl rfl (V_field rfl rfl fo_97_3) ?_ | refine GT_st rfl rfl rfl rfl (V_fieldA rfl rfl fo_97_3) ?_
        refine GT_st rfl rfl rfl rfl (V_load rfl rfl ag_2 (CellAt.own hO1 eEdge_len (by simp; omega) rfl)) ?_
        refine GT_st rfl rfl rfl rfl (V_index rfl rfl rfl Try.underlying25 sz_2 (k := k) rfl (by omega) (hOr.isSome (k := k) (by omega))) ?_
        refine GT_storeOwn (enc := eI) (q := k) (xx := ((last.set k (edgeOf b l 1 k).1).getD k default).wt) rfl rfl rfl rfl rfl rfl rfl sz_2 hOr eI_len eI_one (by omega) (by decide) (fun _ _ => GR_nil) (fun I2 hO2 => ?_)
        refine GT_nil ?_
        refine GE_inBlock ?_
        refine GE_slots (L' := [(0, _), (2, _), (3, _), (4, _), (5, _), (22, _), (23, _)]) ⟨rfl, rfl, rfl, rfl, rfl, rfl, rfl, trivial⟩ ?_
        refine GE_plain (.st 0 (.ld 1 [] .nil)) rfl ?_
        refine GT_st rfl rfl rfl rfl (V_add rfl rfl rfl (wrap_i64 (by omega))) ?_
        refine GT_ldv rfl rfl rfl rfl rfl (V_move rfl rfl) (GR_nil) ?_
        refine GT_nil ?_
        refine GE_to (ih (k + 1, _, _, I2, I1) ⟨by dsimp only; omega, ?_, ?_, ?_, ?_, hO2, hO1⟩ (by dsimp only; omega)) ⟨rfl, rfl, rfl, rfl, rfl, rfl, rfl, trivial⟩ (HS.chunk (HS.chunk (HS.cons rfl (HS.cons rfl (HS.cons rfl HS.nil)))))
        · simpa using hrl
        · simpa using hll
        · intro q hq
          dsimp only at hq ⊢
          rw [getD_set (by omega)]
          split
          · rename_i e; subst e; rw [getD_set (by omega), if_pos rfl, edgeOf_one ⟨by omega, by omega⟩]; simp
          · exact hrq q (by omega)
        · intro q hq
          dsimp only at hq ⊢
          rw [getD_set (by omega)]
          split
          · rename_i e; subst e; rfl
          · exact hlq q (by omega)
      · obtain rfl : k = l.length := (by omega); obtain rfl := start_of hrl hrq; obtain rfl := rim_of hll hlq; have hbd0 := start_bd hb hpb
        refine GE_exit rfl ?_
        refine GE_seq ?_
        refine GE_seq ?_
        refine GE_plain (.st 0 .nil) rfl ?_
        refine GT_st rfl rfl rfl rfl (V_assign rfl rfl) ?_
        refine GT_nil ?_
        refine GE_block ?_
        refine GE_to (GE_loopD (ι := Nat × List Int × List Edge × Items × Items × List Nat) (fun x => l.length + 2 - x.1) (fun x => [(0, ptr bs 0), (2, ptr b2 0), (3, I l.length), (4, ptr b4 0), (5, ptr b5 0), (7, I x.1)]) (fun x => dq x.2.2.2.2.2) (fun x => x.2.2.2.1 ++ (x.2.2.2.2.1 ++ (iq x.2.2.2.2.2 ++ [(b4, blk [.slice (some ⟨br, 0, none⟩) l.length l.length] 25), (b5, blk [.slice (some ⟨bl, 0, none⟩) l.length l.length] 100), (b2, blk [.slice none 0 0, .slice none 0 0] 70)]))) (fun x => x.1 ≤ l.length + 1 ∧ x.2.1.length = l.length ∧ x.2.2.1.length = l.length ∧ Bd x.2.1 l.length (-16777216 - 16777216 * (12288 * (x.1 : Int))) ∧ Own 1 2 eI x.2.1 (.slice (some ⟨br, 0, none⟩) l.length l.length) x.2.2.2.1 ∧ Own 5 97 eEdge x.2.2.1 (.slice (some ⟨bl, 0, none⟩) l.length l.length) x.2.2.2.2.1 ∧ rounds b l (l.length + 2 - x.1) x.2.1 x.2.2.1 = settled b l) ?_ (0, start b l, rimEdges b l, Ir, Il, []) ?_) ⟨rfl, rfl, rfl, rfl, rfl, rfl, trivial⟩ (HS.chunk (HS.chunk (HS.chunk (HS.cons rfl (HS.cons rfl (HS.cons rfl HS.nil))))))
        · rintro ⟨k, r, last, Ir, Il, qs⟩ ⟨hk, hrl, hll, hbd, hOr, hOl, hset⟩ ih; dsimp only at hk hrl hll hbd hOr hOl hset ih ⊢
          refine GE_seq ?_
          refine GE_block ?_
          refine GE_scope ?_
          refine GE_seq ?_
          refine GE_plain (.ld 0 [] (.ld 1 [] .nil)) rfl ?_
          refine GT_alloc rfl rfl rfl rfl rfl zc_3 (fun _ => GR_nil) (fun b8 => ?_)
          refine GT_store (vs := [_]) (l' := [_]) rfl rfl rfl rfl rfl rfl rfl sz_3 rfl rfl (Nat.le_of_ble_eq_true rfl) rfl (GR_nil) ?_
          refine GT_nil ?_
          refine GE_seq ?_
          refine GE_label ?_
          refine GE_seq ?_
          refine GE_seq ?_
          refine GE_plain (.st 0 (.ld 1 [] .nil)) rfl ?_
          refine GT_st rfl rfl rfl rfl (V_move rfl rfl) ?_
          refine GT_call rfl rfl rfl rfl rfl rfl rfl rfl rn_60 (fun w hw => C_lathe_edges) (fun _ _ => GR_nil) (fun bb _ => ?_)
          refine GT_nil ?_
          refine GE_block ?_
          refine GE_range rfl rfl rn_71 (fun T l5 q r0 hr0 hT hlk w hw => ?_)
          refine (C_edges1 (c := c) (lp := l5) (J := (l5, .loop r0) :: (b8, blk [I (-1)] 3) :: (b4, blk [.slice (some ⟨br, 0, none⟩) l.length l.length] 25) :: (b5, blk [.slice (some ⟨bl, 0, none⟩) l.length l.length] 100) :: (Ir ++ Il)) (G := (q, .deferred (some [])) :: (iq qs ++ [(b2, blk [.slice none 0 0, .slice none 0 0] 70)]))
            (Q := fun pre J => ∃ Ir Il, Own 1 2 eI (pre.foldl relax ⟨r, last, -1⟩).r (.slice (some ⟨br, 0, none⟩) l.length l.length) Ir ∧ Own 5 97 eEdge (pre.foldl relax ⟨r, last, -1⟩).last (.slice (some ⟨bl, 0, none⟩) l.length l.length) Il ∧ J = (l5, .loop r0) :: (b8, blk [I (pre.foldl relax ⟨r, last, -1⟩).ch] 3) :: (b4, blk [.slice (some ⟨br, 0, none⟩) l.length l.length] 25) :: (b5, blk [.slice (some ⟨bl, 0, none⟩) l.length l.length] 100) :: (Ir ++ Il))
            hs hp hb hl hpt ?_ ⟨Ir, Il, hOr, hOl, rfl⟩ (hw.hs ((show HS _ _ ((l5, .loop r0) :: (b8, _) :: (b4, _) :: (b5, _) :: (Ir ++ (Il ++ ((bb, _) :: (q, .deferred (some [])) :: (iq qs ++ [(b2, _)]))))) from HS.cons rfl (HS.cons rfl (HS.cons rfl (HS.cons rfl (HS.chunk (HS.chunk (HS.cons rfl (HS.cons rfl (HS.chunk (HS.cons rfl HS.nil)))))))))).eq (by simp)))).mono (fun v w' ⟨J', ⟨Ir1, Il1, hOr1, hOl1, hJ'⟩, hw'⟩ => ?_)
          · intro pre x J hpre ⟨Ir2, Il2, hOr2, hOl2, hJ⟩ G; subst hJ; subst hr0
            have hxe := mem_edgeList.1 (hpre.subset (List.mem_append_right _ (List.mem_singleton.2 rfl)))
            obtain ⟨hxf, hxt, hxn, hw1, hw2⟩ := isEdge_facts hb hpb hxe
            have hbd2 := round_bd (last := last) hb hpb hrl hbd ((List.prefix_append pre [x]).trans hpre)
            have hl2 := (foldl_rlen pre ⟨r, last, -1⟩).trans hrl
            have hll2 := (foldl_llen pre ⟨r, last, -1⟩).trans hll
            have hq : (pre ++ [x]).foldl relax ⟨r, last, -1⟩ = relax (pre.foldl relax ⟨r, last, -1⟩) x := by rw [List.foldl_append]; rfl
            rw [hq]; clear hq
            generalize pre.foldl relax ⟨r, last, -1⟩ = s at *
            unfold In at hxf hxt
            have hB1 := hbd2 x.frm.toNat (by omega)
            have hB2 := hbd2 x.to.toNat (by omega)
            refine yield_of inferInstance rfl rfl hT hlk rfl rfl hm ?_
            refine GE_slots (L' := [(3, I l.length), (4, ptr b4 0), (5, ptr b5 0), (8, ptr b8 0), (48, .agg (eEdge x).toArray)]) ⟨rfl, rfl, rfl, rfl, rfl, trivial⟩ ?_
            refine GE_plain (.ld 0 [] (.ld 1 [] .nil)) rfl ?_
            refine GT_alloc rfl rfl rfl rfl rfl zc_97 (fun _ => GR_nil) (fun b9 => ?_)
            refine GT_store (vs := [_, _, _, _, _]) (l' := [_, _, _, _, _]) rfl rfl rfl rfl rfl rfl rfl sz_97 rfl rfl (Nat.le_of_ble_eq_true rfl) rfl (GR_nil) ?_
            refine GT_nil ?_
            refine GE_beginRound rfl ?_
            refine GE_block ?_
            refine GE_seq ?_
            refine GE_seq ?_
            refine GE_drawn (.st 0 (.st 1 (.st 2 (.st 3 (.st 4 (.st 5 (.st 6 (.st 7 (.st 8 (.st 9 (.st 10 (.st 11 (.st 12 (.st 13 .nil)))))))))))))) [] (by decide +kernel) ?_
            first | refine GT_st rfl rfl rfl rfl (V_load rfl rfl ag_25 (CellAt.item rfl)) ?_ | refine GT_st rfl rfl rfl rfl (V_load rfl rfl ag_25 (CellAt.old (hs.cell rfl) (noM _))) ?_
            first | refine GT_st rfl rfl rfl rfl (V_field rfl rfl fo_97_1) ?_ | refine GT_st rfl rfl rfl rfl (V_fieldA rfl rfl fo_97_1) ?_
            first | refine GT_st rfl rfl rfl rfl (V_load rfl rfl ag_3 (CellAt.item rfl)) ?_ | refine GT_st rfl rfl rfl rfl (V_load rfl rfl ag_3 (CellAt.old (hs.cell rfl) (noM _))) ?_
            refine GT_st rfl rfl rfl rfl (V_index rfl rfl rfl Try.underlying25 sz_2 (k := x.frm.toNat) (by omega) (by omega) (hOr2.isSome (k := x.frm.toNat) (by omega))) ?_
            refine GT_st rfl rfl rfl rfl (V_load rfl rfl ag_2 (CellAt.own0 hOr2 eI_len (by omega) rfl)) ?_
            first | refine GT_st rfl rfl rfl rfl (V_field rfl rfl fo_97_3) ?_ | refine GT_st rfl rfl rfl rfl (V_fieldA rfl rfl fo_97_3) ?_
            first | refine GT_st rfl rfl rfl rfl (V_load rfl rfl ag_2 (CellAt.item rfl)) ?_ | refine GT_st rfl rfl rfl rfl (V_load rfl rfl ag_2 (CellAt.old (hs.cell rfl) (noM _))) ?_
            refine GT_st rfl rfl rfl rfl (V_add rfl rfl rfl (wrap_i64 (by omega))) ?_
            first | refine GT_st rfl rfl rfl rfl (V_load rfl rfl ag_25 (CellAt.item rfl)) ?_ | refine GT_st rfl rfl rfl rfl (V_load rfl rfl ag_25 (CellAt.old (hs.cell rfl) (noM _))) ?_
            first | refine GT_st rfl rfl rfl rfl (V_field rfl rfl fo_97_2) ?_ | refine GT_st rfl rfl rfl rfl (V_fieldA rfl rfl fo_97_2) ?_
            first | refine GT_st rfl rfl rfl rfl (V_load rfl rfl ag_3 (CellAt.item rfl)) ?_ | refine GT_st rfl rfl rfl rfl (V_load rfl rfl ag_3 (CellAt.old (hs.cell rfl) (noM _))) ?_
            refine GT_st rfl rfl rfl rfl (V_index rfl rfl rfl Try.underlying25 sz_2 (k := x.to.toNat) (by omega) (by omega) (hOr2.isSome (k := x.frm.toNat) (by omega))) ?_
            refine GT_st rfl rfl rfl rfl (V_load rfl rfl ag_2 (CellAt.own0 hOr2 eI_len (by omega) rfl)) ?_
            refine GT_st rfl rfl rfl rfl (V_geq rfl rfl rfl) ?_
            refine GT_nil ?_
            first | refine GE_condNot rfl (fun hge => ?_) (fun hge => ?_) | refine GE_cond rfl (fun hge => ?_) (fun hge => ?_) | refine GE_condNotB rfl (fun hge => ?_) (fun hge => ?_) | refine GE_condB rfl (fun hge => ?_) (fun hge => ?_)
            · rw [relax_no (by unfold R; omega)]
              refine GE_exit rfl ?_
              first
                | (refine GE_leave none rfl (fun w hw => ⟨_, ⟨_, rfl, ⟨Ir3, Il3, hOr3, hOl3, rfl⟩, rfl⟩, ?_⟩); rw [j4]; exact hw.hs (HS.cons rfl (HS.cons rfl (HS.cons rfl (HS.cons rfl (HS.chunk (HS.chunk HS.last)))))))
                | (refine GE_leave none rfl (fun w hw => ⟨_, ⟨_, rfl, ⟨Ir2, Il2, hOr2, hOl2, rfl⟩, rfl⟩, ?_⟩); rw [j4]; exact hw.hs (HS.cons rfl (HS.cons rfl (HS.cons rfl (HS.cons rfl (HS.chunk (HS.chunk HS.last)))))))
            · rw [relax_yes (by unfold R; omega)]
              refine GE_skip ?_
              refine GE_slots (L' := [(4, _), (5, _), (8, _), (9, _)]) ⟨rfl, rfl, rfl, rfl, trivial⟩ ?_
              refine GE_drawn (.st 0 (.st 1 (.st 2 (.st 3 (.st 4 (.st 5 (.st 6 (.st 7 (.st 8 (.st 9 (.st 10 (.st 11 (.st 12 (.st 13 (.st 14 (.st 15 (.st 16 (.st 17 (.ld 18 [3, 4, 5, 14, 15, 16] (.st 19 (.ld 20 [15, 16] (.ld 21 [] .nil)))))))))))))))))))))) [18, 20, 21] (by decide +kernel) ?_
              first | refine GT_st rfl rfl rfl rfl (V_load rfl rfl ag_25 (CellAt.item rfl)) ?_ | refine GT_st rfl rfl rfl rfl (V_load rfl rfl ag_25 (CellAt.old (hs.cell rfl) (noM _))) ?_
              first | refine GT_st rfl rfl rfl rfl (V_field rfl rfl fo_97_2) ?_ | refine GT_st rfl rfl rfl rfl (V_fieldA rfl rfl fo_97_2) ?_
              first | refine GT_st rfl rfl rfl rfl (V_load rfl rfl ag_3 (CellAt.item rfl)) ?_ | refine GT_st rfl rfl rfl rfl (V_load rfl rfl ag_3 (CellAt.old (hs.cell rfl) (noM _))) ?_
              first | refine GT_st rfl rfl rfl rfl (V_load rfl rfl ag_100 (CellAt.item rfl)) ?_ | refine GT_st rfl rfl rfl rfl (V_load rfl rfl ag_100 (CellAt.old (hs.cell rfl) (noM _))) ?_
              first | refine GT_st rfl rfl rfl rfl (V_field rfl rfl fo_97_2) ?_ | refine GT_st rfl rfl rfl rfl (V_fieldA rfl rfl fo_97_2) ?_
              first | refine GT_st rfl rfl rfl rfl (V_load rfl rfl ag_3 (CellAt.item rfl)) ?_ | refine GT_st rfl rfl rfl rfl (V_load rfl rfl ag_3 (CellAt.old (hs.cell rfl) (noM _))) ?_
              first | refine GT_st rfl rfl rfl rfl (V_load rfl rfl ag_25 (CellAt.item rfl)) ?_ | refine GT_st rfl rfl rfl rfl (V_load rfl rfl ag_25 (CellAt.old (hs.cell rfl) (noM _))) ?_
              first | refine GT_st rfl rfl rfl rfl (V_field rfl rfl fo_97_1) ?_ | refine GT_st rfl rfl rfl rfl (V_fieldA rfl rfl fo_97_1) ?_
              first | refine GT_st rfl rfl rfl rfl (V_load rfl rfl ag_3 (CellAt.item rfl)) ?_ | refine GT_st rfl rfl rfl rfl (V_load rfl rfl ag_3 (CellAt.old (hs.cell rfl) (noM _))) ?_
              refine GT_st rfl rfl rfl rfl (V_index rfl rfl rfl Try.underlying25 sz_2 (k := x.frm.toNat) (by omega) (by omega) (hOr2.isSome (k := x.frm.toNat) (by omega))) ?_
              refine GT_st rfl rfl rfl rfl (V_load rfl rfl ag_2 (CellAt.own0 hOr2 eI_len (by omega) rfl)) ?_
              first | refine GT_st rfl rfl rfl rfl (V_field rfl rfl fo_97_3) ?_ | refine GT_st rfl rfl rfl rfl (V_fieldA rfl rfl fo_97_3) ?_
              first | refine GT_st rfl rfl rfl rfl (V_load rfl rfl ag_2 (CellAt.item rfl)) ?_ | refine GT_st rfl rfl rfl rfl (V_load rfl rfl ag_2 (CellAt.old (hs.cell rfl) (noM _))) ?_
              refine GT_st rfl rfl rfl rfl (V_add rfl rfl rfl (wrap_i64 (by omega))) ?_
              refine GT_st rfl rfl rfl rfl (V_loadN (vs := [_, _, _, _, _]) rfl rfl ag_97 sz_97 rfl (CellsAt.item rfl)) ?_
              first | refine GT_st rfl rfl rfl rfl (V_field rfl rfl fo_97_2) ?_ | refine GT_st rfl rfl rfl rfl (V_fieldA rfl rfl fo_97_2) ?_
              first | refine GT_st rfl rfl rfl rfl (V_load rfl rfl ag_3 (CellAt.item rfl)) ?_ | refine GT_st rfl rfl rfl rfl (V_load rfl rfl ag_3 (CellAt.old (hs.cell rfl) (noM _))) ?_
              refine GT_st rfl rfl rfl rfl (V_index rfl rfl rfl Try.underlying25 sz_2 (k := x.to.toNat) (by omega) (by omega) (hOr2.isSome (k := x.frm.toNat) (by omega))) ?_
              refine GT_storeOwn (enc := eI) (q := x.to.toNat) (xx := R s x.frm + x.wt) rfl rfl rfl rfl rfl rfl rfl sz_2 hOr2 eI_len eI_one (by omega) (by decide) (fun _ _ => GR_cons rfl rfl rfl rfl ((by first | exact V_load rfl rfl ag_100 (CellAt.item rfl) | exact V_load rfl rfl ag_100 (CellAt.old (hs.cell rfl) (noM _)))) (GR_cons rfl rfl rfl rfl ((by first | exact V_field rfl rfl fo_97_2 | exact V_fieldA rfl rfl fo_97_2)) (GR_cons rfl rfl rfl rfl ((by first | exact V_load rfl rfl ag_3 (CellAt.item rfl) | exact V_load rfl rfl ag_3 (CellAt.old (hs.cell rfl) (noM _)))) (GR_cons rfl rfl rfl rfl (V_loadN (vs := [_, _, _, _, _]) rfl rfl ag_97 sz_97 rfl (CellsAt.item rfl)) (GR_cons rfl rfl rfl rfl ((by first | exact V_field rfl rfl fo_97_2 | exact V_fieldA rfl rfl fo_97_2)) (GR_cons rfl rfl rfl rfl ((by first | exact V_load rfl rfl ag_3 (CellAt.item rfl) | exact V_load rfl rfl ag_3 (CellAt.old (hs.cell rfl) (noM _)))) (GR_nil))))))) (fun Ir3 hOr3 => ?_)
              refine GT_st rfl rfl rfl rfl (V_index rfl rfl rfl Try.underlying100 sz_97 (k := x.to.toNat) (by omega) (by omega) (hOl2.isSome (k := x.frm.toNat) (by omega))) ?_
              refine GT_storeOwn (enc := eEdge) (q := x.to.toNat) (xx := x) rfl rfl rfl rfl rfl rfl rfl sz_97 hOl2 eEdge_len eEdge_one (by omega) (by decide) (fun _ _ => GR_cons rfl rfl rfl rfl ((by first | exact V_field rfl rfl fo_97_2 | exact V_fieldA rfl rfl fo_97_2)) (GR_cons rfl rfl rfl rfl ((by first | exact V_load rfl rfl ag_3 (CellAt.item rfl) | exact V_load rfl rfl ag_3 (CellAt.old (hs.cell rfl) (noM _)))) (GR_nil))) (fun Il3 hOl3 => ?_)
              refine GT_store (vs := [_]) (l' := [_]) rfl rfl rfl rfl rfl rfl rfl sz_3 rfl rfl (Nat.le_of_ble_eq_true rfl) rfl (GR_nil) ?_
              refine GT_nil ?_
              refine GE_inBlock ?_
              first
                | (refine GE_leave none rfl (fun w hw => ⟨_, ⟨_, rfl, ⟨Ir3, Il3, hOr3, hOl3, rfl⟩, rfl⟩, ?_⟩); rw [j4]; exact hw.hs (HS.cons rfl (HS.cons rfl (HS.cons rfl (HS.cons rfl (HS.chunk (HS.chunk HS.last)))))))
                | (refine GE_leave none rfl (fun w hw => ⟨_, ⟨_, rfl, ⟨Ir2, Il2, hOr2, hOl2, rfl⟩, rfl⟩, ?_⟩); rw [j4]; exact hw.hs (HS.cons rfl (HS.cons rfl (HS.cons rfl (HS.cons rfl (HS.chunk (HS.chunk HS.last)))))))
          · subst hJ'; subst hr0
            have es : List.foldl relax ⟨r, last, -1⟩ (edgeList b l) = round b l r last := rfl
            rw [es] at hOr1 hOl1 hw'
            have hbd1 := round_bd (last := last) hb hpb hrl hbd List.prefix_rfl
            rw [es] at hbd1
            obtain ⟨hrl1, hll1⟩ := round_len b l r last
            refine ⟨_, (b8, blk [I (round b l r last).ch] 3) :: (b4, blk [.slice (some ⟨br, 0, none⟩) l.length l.length] 25) :: (b5, blk [.slice (some ⟨bl, 0, none⟩) l.length l.length] 100) :: (Ir1 ++ (Il1 ++ (iq qs ++ [(b2, blk [.slice none 0 0, .slice none 0 0] 70)]))), ?_, hw'.hs (HS.cons rfl (HS.cons rfl (HS.cons rfl (HS.cons rfl (HS.cons rfl (HS.chunk (HS.chunk (HS.chunk (HS.cons rfl HS.nil))))))))), ?_⟩
            · intro h; cases h
            refine GE_D (D' := dq (q :: qs)) ?_ rfl
            refine GE_inBlock ?_
            refine GE_seq ?_
            refine GE_seq ?_
            refine GE_plain (.st 0 (.st 1 .nil)) rfl ?_
            first | refine GT_st rfl rfl rfl rfl (V_load rfl rfl ag_3 (CellAt.item rfl)) ?_ | refine GT_st rfl rfl rfl rfl (V_load rfl rfl ag_3 (CellAt.old (hs.cell rfl) (noM _))) ?_
            refine GT_st rfl rfl rfl rfl (V_eql rfl rfl rfl) ?_
            refine GT_nil ?_
            first | refine GE_condNot rfl (fun hch => ?_) (fun hch => ?_) | refine GE_cond rfl (fun hch => ?_) (fun hch => ?_) | refine GE_condNotB rfl (fun hch => ?_) (fun hch => ?_) | refine GE_condB rfl (fun hch => ?_) (fun hch => ?_)
            · have hset1 : settled b l = round b l r last := (by rw [← hset, show l.length + 2 - k = (l.length + 1 - k) + 1 by omega, rounds_stop hch]); rw [← hset1] at hOr1 hOl1 hbd1 hrl1 hll1 hch; rw [hrl] at hrl1; rw [hll] at hll1
              refine GE_exit rfl ?_
              refine GE_seq ?_
              refine GE_seq ?_
              refine GE_slots (L' := [(0, _), (2, _), (3, _), (4, _), (5, _)]) ⟨rfl, rfl, rfl, rfl, rfl, trivial⟩ ?_
              refine GE_plain (.st 0 (.st 1 .nil)) rfl ?_
              refine GT_st rfl rfl rfl rfl (V_move rfl rfl) ?_
              refine GT_st rfl rfl rfl rfl (V_move rfl rfl) ?_
              refine GT_nil ?_
              refine GE_block ?_
              refine GE_to (GE_loop (ι := Nat) (fun i => l.length - i) (fun i => [(0, ptr bs 0), (2, ptr b2 0), (4, ptr b4 0), (5, ptr b5 0), (91, I l.length), (92, I i)]) (fun i => Ir1 ++ (Il1 ++ (iq (q :: qs) ++ [(b4, blk [.slice (some ⟨br, 0, none⟩) l.length l.length] 25), (b5, blk [.slice (some ⟨bl, 0, none⟩) l.length l.length] 100), (b2, blk [.slice none 0 0, .slice none 0 0] 70)]))) (fun i => i ≤ l.length ∧ ∀ q : Nat, q < i → 0 ≤ (settled b l).r.getD q default + (edgeOf b l 2 q).1.wt) ?_ 0 ?_) ⟨rfl, rfl, rfl, rfl, rfl, rfl, trivial⟩ (HS.chunk (HS.chunk (HS.chunk (HS.cons rfl (HS.cons rfl (HS.cons rfl HS.nil))))))
              · rintro i ⟨hi, hiq⟩ ih3
                refine GE_seq ?_
                refine GE_plain (.st 0 .nil) rfl ?_
                refine GT_st rfl rfl rfl rfl (V_lss rfl rfl rfl) ?_
                refine GT_nil ?_
                refine GE_seq ?_
                first | refine GE_condNot rfl (fun h5 => ?_) (fun h5 => ?_) | refine GE_cond rfl (fun h5 => ?_) (fun h5 => ?_) | refine GE_condNotB rfl (fun h5 => ?_) (fun h5 => ?_) | refine GE_condB rfl (fun h5 => ?_) (fun h5 => ?_)
                · have hil : i < l.length := (by omega); have hBi := hbd1 i hil; have he2 := congrArg (fun e : Edge × Bool => e.1.wt) (edgeOf_two (b := b) (l := l) (i := (i : Int)) ⟨by omega, by omega⟩); have hpi := hpb i hil; have hbo := Blank.ok_iff.1 hb; simp only [Int.toNat_natCast] at he2
                  refine GE_skip ?_
                  refine GE_seq ?_
                  refine GE_block ?_
                  refine GE_seq ?_
                  refine GE_plain (.st 0 (.st 1 .nil)) rfl ?_
                  refine GT_st rfl rfl rfl rfl (V_move rfl rfl) ?_
                  refine GT_st rfl rfl rfl rfl (V_assign rfl rfl) ?_
                  refine GT_nil ?_
                  refine GE_seq ?_
                  refine GE_plain (.st 0 (.st 1 (.ld 2 [] (.st 3 (.st 4 (.st 5 (.ld 6 [] (.ld 7 [] (.st 8 .nil))))))))) rfl ?_
                  refine GT_st rfl rfl rfl rfl (V_move rfl rfl) ?_
                  refine GT_st rfl rfl rfl rfl (V_move rfl rfl) ?_
                  refine GT_call0 rfl rfl rfl rfl rfl rfl rfl rfl rn_57 (fun w hw => C_lathe_edge (hs.sh hw) (hp.sh hw) hb hl hpt) (GR_nil) ?_
                  refine GT_st rfl rfl rfl rfl (V_move rfl rfl) ?_
                  refine GT_st rfl rfl rfl rfl (V_extract rfl rfl rfl) ?_
                  refine GT_st rfl rfl rfl rfl (V_extract rfl rfl rfl) ?_
                  refine GT_alloc rfl rfl rfl rfl rfl zc_97 (fun _ => GR_nil) (fun b11 => ?_)
                  refine GT_store (vs := [_, _, _, _, _]) (l' := [_, _, _, _, _]) rfl rfl rfl rfl rfl rfl rfl sz_97 rfl rfl (Nat.le_of_ble_eq_true rfl) rfl (GR_nil) ?_
                  refine GT_st rfl rfl rfl rfl (V_assign rfl rfl) ?_
                  refine GT_nil ?_
                  refine GE_seq ?_
                  refine GE_slots (L' := [(0, _), (2, _), (4, _), (5, _), (10, _), (11, _), (91, _), (92, _)]) ⟨rfl, rfl, rfl, rfl, rfl, rfl, rfl, rfl, trivial⟩ ?_
                  refine GE_drawn (.st 0 (.st 1 (.st 2 (.st 3 (.st 4 (.st 5 (.st 6 (.st 7 .nil)))))))) [] (by decide +kernel) ?_
                  first | refine GT_st rfl rfl rfl rfl (V_load rfl rfl ag_25 (CellAt.item rfl)) ?_ | refine GT_st rfl rfl rfl rfl (V_load rfl rfl ag_25 (CellAt.old (hs.cell rfl) (noM _))) ?_
                  refine GT_st rfl rfl rfl rfl (V_move rfl rfl) ?_
                  refine GT_st rfl rfl rfl rfl (V_index rfl rfl rfl Try.underlying25 sz_2 (k := i) rfl (by omega) (hOr1.isSome (k := i) (by omega))) ?_
                  refine GT_st rfl rfl rfl rfl (V_load rfl rfl ag_2 (CellAt.own0 hOr1 eI_len (by omega) rfl)) ?_
                  first | refine GT_st rfl rfl rfl rfl (V_field rfl rfl fo_97_3) ?_ | refine GT_st rfl rfl rfl rfl (V_fieldA rfl rfl fo_97_3) ?_
                  first | refine GT_st rfl rfl rfl rfl (V_load rfl rfl ag_2 (CellAt.item rfl)) ?_ | refine GT_st rfl rfl rfl rfl (V_load rfl rfl ag_2 (CellAt.old (hs.cell rfl) (noM _))) ?_
                  refine GT_st rfl rfl rfl rfl (V_add rfl rfl rfl (wrap_i64 (by omega))) ?_
                  refine GT_st rfl rfl rfl rfl (V_lss rfl rfl rfl) ?_
                  refine GT_nil ?_
                  first | refine GE_condNot rfl (fun h6 => ?_) (fun h6 => ?_) | refine GE_cond rfl (fun h6 => ?_) (fun h6 => ?_) | refine GE_condNotB rfl (fun h6 => ?_) (fun h6 => ?_) | refine GE_condB rfl (fun h6 => ?_) (fun h6 => ?_)
                  · obtain ⟨m, hm8, hway⟩ := settled_way hb hpb hl hch (v := i) ⟨by omega, by omega⟩; have hef : (edgeOf b l 2 i).1.frm = i := (by rw [edgeOf_two ⟨by omega, by omega⟩])
                    refine GE_seq ?_
                    refine GE_slots (L' := [(2, _), (5, _), (11, _)]) ⟨rfl, rfl, rfl, trivial⟩ ?_
                    refine GE_plain (.st 0 (.st 1 (.ld 2 [] (.st 3 (.ld 4 [] .nil))))) rfl ?_
                    first | refine GT_st rfl rfl rfl rfl (V_load rfl rfl ag_100 (CellAt.item rfl)) ?_ | refine GT_st rfl rfl rfl rfl (V_load rfl rfl ag_100 (CellAt.old (hs.cell rfl) (noM _))) ?_
                    refine GT_st rfl rfl rfl rfl (V_loadN (vs := [_, _, _, _, _]) rfl rfl ag_97 sz_97 rfl (CellsAt.item rfl)) ?_
                    refine GT_call rfl rfl rfl rfl rfl rfl rfl rfl rn_62 (fun w hw => C_lathe_way (m := m) (x := (edgeOf b l 2 i).1) hll1.symm (hOl1.rdH eEdge_len hw) (fun j hj => by rw [hef, hll1]; exact hway.ins j hj) (by rw [hef]; exact hway.rim) hm8) (fun _ _ => GR_nil) (fun x111 hx111 => ?_)
                    refine GT_st rfl rfl rfl rfl (V_build (vs := [_, _]) rfl rfl zc_70 pl_70 sa_70 rfl) ?_
                    refine GT_store (vs := [_, _]) (l' := [_, _]) rfl rfl rfl rfl rfl rfl rfl sz_70 rfl rfl (Nat.le_of_ble_eq_true rfl) rfl (GR_nil) ?_
                    refine GT_nil ?_
                    refine GE_retq Try.func39 ⟨_, rfl, fun w m => run_loadVar_agg (vs := [_, _]) ag_70 sz_70 rfl (fun j v hj => CellsAt.item rfl j v hj w m)⟩ (fun w hw => ?_)
                    exact ⟨([], (wsteps (settled b l).last (edgeOf b l 2 i).1 m).reverse, (none, 0, []), x111), ⟨.inr (.inl ⟨hch, rfl, i, by omega, h6, m, hway, rfl⟩), Own.nil, by dsimp only; rw [List.length_reverse]; exact hx111⟩, by dsimp only; rw [List.length_reverse]; rfl, hw.hs (HS.chunk (I := []) HS.last)⟩
                  · skip
                    refine GE_skip ?_
                    refine GE_inBlock ?_
                    refine GE_slots (L' := [(0, _), (2, _), (4, _), (5, _), (91, _), (92, _)]) ⟨rfl, rfl, rfl, rfl, rfl, rfl, trivial⟩ ?_
                    refine GE_plain (.st 0 (.ld 1 [] .nil)) rfl ?_
                    refine GT_st rfl rfl rfl rfl (V_add rfl rfl rfl (wrap_i64 (by omega))) ?_
                    refine GT_ldv rfl rfl rfl rfl rfl (V_move rfl rfl) (GR_nil) ?_
                    refine GT_nil ?_
                    exact GE_to (ih3 (i + 1) ⟨by omega, fun q hq => by rcases Nat.lt_or_ge q i with h | h; exact hiq q h; obtain rfl : q = i := (by omega); omega⟩ (by omega)) ⟨rfl, rfl, rfl, rfl, rfl, rfl, trivial⟩ (HS.chunk (HS.chunk (HS.chunk (HS.cons rfl (HS.cons rfl (HS.cons rfl HS.nil))))))
                · obtain rfl : i = l.length := (by omega)
                  refine GE_exit rfl ?_
                  refine GE_seq ?_
                  refine GE_slots (L' := [(2, _), (4, _)]) ⟨rfl, rfl, trivial⟩ ?_
                  refine GE_plain (.st 0 (.st 1 (.ld 2 [] .nil))) rfl ?_
                  first | refine GT_st rfl rfl rfl rfl (V_load rfl rfl ag_25 (CellAt.item rfl)) ?_ | refine GT_st rfl rfl rfl rfl (V_load rfl rfl ag_25 (CellAt.old (hs.cell rfl) (noM _))) ?_
                  refine GT_st rfl rfl rfl rfl (V_build (vs := [_, _]) rfl rfl zc_70 pl_70 sa_70 rfl) ?_
                  refine GT_store (vs := [_, _]) (l' := [_, _]) rfl rfl rfl rfl rfl rfl rfl sz_70 rfl rfl (Nat.le_of_ble_eq_true rfl) rfl (GR_nil) ?_
                  refine GT_nil ?_
                  refine GE_retq Try.func39 ⟨_, rfl, fun w m => run_loadVar_agg (vs := [_, _]) ag_70 sz_70 rfl (fun j v hj => CellsAt.item rfl j v hj w m)⟩ (fun w hw => ?_)
                  exact ⟨((settled b l).r, [], (some ⟨br, 0, none⟩, l.length, Ir1), (none, 0, [])), ⟨.inr (.inr ⟨hch, rfl, rfl, hiq⟩), by dsimp only; rw [hrl1]; exact hOr1, Own.nil⟩, by dsimp only; rw [hrl1]; rfl, hw.hs (HS.chunk HS.nil)⟩
              · exact ⟨Nat.zero_le _, fun q hq => absurd hq (Nat.not_lt_zero _)⟩
            · skip
              refine GE_skip ?_
              refine GE_seq ?_
              refine GE_slots (L' := [(0, _), (2, _), (3, _), (4, _), (5, _), (7, _), (8, _)]) ⟨rfl, rfl, rfl, rfl, rfl, rfl, rfl, trivial⟩ ?_
              refine GE_plain (.st 0 (.st 1 (.st 2 .nil))) rfl ?_
              refine GT_st rfl rfl rfl rfl (V_move rfl rfl) ?_
              refine GT_st rfl rfl rfl rfl (V_move rfl rfl) ?_
              refine GT_st rfl rfl rfl rfl (V_gtr rfl rfl rfl) ?_
              refine GT_nil ?_
              first | refine GE_condNot rfl (fun hkn => ?_) (fun hkn => ?_) | refine GE_cond rfl (fun hkn => ?_) (fun hkn => ?_) | refine GE_condNotB rfl (fun hkn => ?_) (fun hkn => ?_) | refine GE_condB rfl (fun hkn => ?_) (fun hkn => ?_)
              · have hset1 : settled b l = round b l r last := (by rw [← hset, show l.length + 2 - k = 1 by omega, rounds_last]); rw [← hset1] at hOr1 hOl1 hrl1 hll1 hch ⊢; rw [hll] at hll1; have hll1' := hll1; obtain ⟨hins, m, hm0, hmn, hmb⟩ := settled_circle hb hpb hch
                refine GE_seq ?_
                refine GE_slots (L' := [(2, _), (5, _), (8, _)]) ⟨rfl, rfl, rfl, trivial⟩ ?_
                refine GE_plain (.st 0 (.st 1 (.ld 2 [] (.st 3 (.ld 4 [] .nil))))) rfl ?_
                first | refine GT_st rfl rfl rfl rfl (V_load rfl rfl ag_100 (CellAt.item rfl)) ?_ | refine GT_st rfl rfl rfl rfl (V_load rfl rfl ag_100 (CellAt.old (hs.cell rfl) (noM _))) ?_
                first | refine GT_st rfl rfl rfl rfl (V_load rfl rfl ag_3 (CellAt.item rfl)) ?_ | refine GT_st rfl rfl rfl rfl (V_load rfl rfl ag_3 (CellAt.old (hs.cell rfl) (noM _))) ?_
                refine GT_call rfl rfl rfl rfl rfl rfl rfl rfl rn_61 (fun w hw => C_lathe_circle hll1.symm (hOl1.rdH eEdge_len hw) (fun i => by rw [hll1]; exact hins i) (by omega) hm0 (by rw [hll1]; exact hmb) (by omega) (fun i => by rw [hll1, ← back_add]; exact hins _)) (fun _ _ => GR_nil) (fun x89 hx89 => ?_)
                rw [hll1] at hx89 ⊢
                refine GT_st rfl rfl rfl rfl (V_build (vs := [_, _]) rfl rfl zc_70 pl_70 sa_70 rfl) ?_
                refine GT_store (vs := [_, _]) (l' := [_, _]) rfl rfl rfl rfl rfl rfl rfl sz_70 rfl rfl (Nat.le_of_ble_eq_true rfl) rfl (GR_nil) ?_
                refine GT_nil ?_
                refine GE_retq Try.func39 ⟨_, rfl, fun w m => run_loadVar_agg (vs := [_, _]) ag_70 sz_70 rfl (fun j v hj => CellsAt.item rfl j v hj w m)⟩ (fun w hw => ?_)
                exact ⟨([], (csteps (settled b l).last (back (settled b l).last l.length (settled b l).ch) x89.1).reverse, (none, 0, []), (x89.2.1, x89.2.2.1, x89.2.2.2)), ⟨.inl ⟨hch, rfl, _, hx89.1, rfl⟩, Own.nil, by dsimp only; rw [List.length_reverse]; exact hx89.2⟩, by dsimp only; rw [List.length_reverse]; rfl, hw.hs (HS.chunk (I := []) HS.last)⟩
              · have hset1 : rounds b l (l.length + 2 - (k + 1)) (round b l r last).r (round b l r last).last = settled b l := (by rw [← hset, show l.length + 2 - k = (l.length + 2 - (k + 1)) + 1 by omega, rounds_go hch (by omega)])
                refine GE_skip ?_
                refine GE_inScope ?_
                refine GE_inBlock ?_
                refine GE_slots (L' := [(0, _), (2, _), (3, _), (4, _), (5, _), (7, _)]) ⟨rfl, rfl, rfl, rfl, rfl, rfl, trivial⟩ ?_
                refine GE_plain (.st 0 (.st 1 (.ld 2 [] .nil))) rfl ?_
                refine GT_st rfl rfl rfl rfl (V_move rfl rfl) ?_
                refine GT_st rfl rfl rfl rfl (V_add rfl rfl rfl (wrap_i64 (by omega))) ?_
                refine GT_ldv rfl rfl rfl rfl rfl (V_assign rfl rfl) (GR_nil) ?_
                refine GT_nil ?_
                exact GE_to (ih (k + 1, (round b l r last).r, (round b l r last).last, Ir1, Il1, q :: qs) ⟨by dsimp only; omega, by dsimp only; rw [hrl1, hrl], by dsimp only; rw [hll1, hll], (fun q hq => by have := hbd1 q hq; dsimp only at this ⊢; push_cast; omega), hOr1, hOl1, hset1⟩ (by dsimp only; omega)) ⟨rfl, rfl, rfl, rfl, rfl, rfl, trivial⟩ (HS.chunk (HS.chunk (HS.chunk (HS.cons rfl (HS.cons rfl (HS.cons rfl HS.nil))))))
        · exact ⟨Nat.zero_le _, start_length b l, rimEdges_length b l, hbd0, hOr, hOl, rfl⟩
    · refine ⟨Nat.zero_le _, by simp, by simp, fun q hq => absurd hq (Nat.not_lt_zero _), fun q hq => absurd hq (Nat.not_lt_zero _), Own.made (x := (0 : Int)) rfl (Nat.le_trans hl (by decide)), Own.made (x := (⟨0, 0, 0, 0, 0⟩ : Edge)) rfl (Nat.le_trans hl (by decide))⟩
  · skip
    refine GE_slots (L' := [(0, _), (2, _), (3, _)]) ⟨rfl, rfl, rfl, trivial⟩ ?_
    refine GE_drawn (.st 0 (.st 2 (.br (.ld 1 [2] (.br (.ld 3 [0] (.br (.ld 4 [0, 2] (.ld 5 [0, 2] (.ld 6 [2] (.ld 7 [] .nil)))) (.ld 5 [0, 2] (.ld 4 [0, 2] (.ld 6 [2] (.ld 7 [] .nil)))))) (.br (.ld 4 [0, 2] (.br (.ld 3 [0] (.ld 5 [0, 2] (.ld 6 [2] (.ld 7 [] .nil)))) (.ld 5 [0, 2] (.br (.ld 3 [0] (.ld 6 [2] (.ld 7 [] .nil))) (.ld 6 [2] (.ld 3 [0] (.ld 7 [] .nil))))))) (.ld 5 [0, 2] (.br (.ld 3 [0] (.ld 4 [0, 2] (.ld 6 [2] (.ld 7 [] .nil)))) (.ld 4 [0, 2] (.br (.ld 3 [0] (.ld 6 [2] (.ld 7 [] .nil))) (.ld 6 [2] (.ld 3 [0] (.ld 7 [] .nil)))))))))) (.br (.ld 3 [0] (.br (.ld 1 [2] (.br (.ld 4 [0, 2] (.ld 5 [0, 2] (.ld 6 [2] (.ld 7 [] .nil)))) (.ld 5 [0, 2] (.ld 4 [0, 2] (.ld 6 [2] (.ld 7 [] .nil)))))) (.br (.ld 4 [0, 2] (.br (.ld 1 [2] (.ld 5 [0, 2] (.ld 6 [2] (.ld 7 [] .nil)))) (.ld 5 [0, 2] (.ld 1 [2] (.ld 6 [2] (.ld 7 [] .nil)))))) (.ld 5 [0, 2] (.br (.ld 1 [2] (.ld 4 [0, 2] (.ld 6 [2] (.ld 7 [] .nil)))) (.ld 4 [0, 2] (.ld 1 [2] (.ld 6 [2] (.ld 7 [] .nil))))))))) (.br (.ld 4 [0, 2] (.br (.ld 1 [2] (.br (.ld 3 [0] (.ld 5 [0, 2] (.ld 6 [2] (.ld 7 [] .nil)))) (.ld 5 [0, 2] (.br (.ld 3 [0] (.ld 6 [2] (.ld 7 [] .nil))) (.ld 6 [2] (.ld 3 [0] (.ld 7 [] .nil))))))) (.br (.ld 3 [0] (.br (.ld 1 [2] (.ld 5 [0, 2] (.ld 6 [2] (.ld 7 [] .nil)))) (.ld 5 [0, 2] (.ld 1 [2] (.ld 6 [2] (.ld 7 [] .nil)))))) (.ld 5 [0, 2] (.br (.ld 1 [2] (.br (.ld 3 [0] (.ld 6 [2] (.ld 7 [] .nil))) (.ld 6 [2] (.ld 3 [0] (.ld 7 [] .nil))))) (.ld 3 [0] (.ld 1 [2] (.ld 6 [2] (.ld 7 [] .nil))))))))) (.ld 5 [0, 2] (.br (.ld 1 [2] (.br (.ld 3 [0] (.ld 4 [0, 2] (.ld 6 [2] (.ld 7 [] .nil)))) (.ld 4 [0, 2] (.br (.ld 3 [0] (.ld 6 [2] (.ld 7 [] .nil))) (.ld 6 [2] (.ld 3 [0] (.ld 7 [] .nil))))))) (.br (.ld 3 [0] (.br (.ld 1 [2] (.ld 4 [0, 2] (.ld 6 [2] (.ld 7 [] .nil)))) (.ld 4 [0, 2] (.ld 1 [2] (.ld 6 [2] (.ld 7 [] .nil)))))) (.ld 4 [0, 2] (.br (.ld 1 [2] (.br (.ld 3 [0] (.ld 6 [2] (.ld 7 [] .nil))) (.ld 6 [2] (.ld 3 [0] (.ld 7 [] .nil))))) (.ld 3 [0] (.ld 1 [2] (.ld 6 [2] (.ld 7 [] .nil)))))))))))))) [1, 3, 4, 5, 6, 7] (by decide +kernel) ?_
    refine GT_st rfl rfl rfl rfl (V_move rfl rfl) ?_
    refine GT_st rfl rfl rfl rfl (V_move rfl rfl) ?_
    refine GT_br ?_ ?_
    · skip
      refine GT_makeSlice rfl rfl rfl rfl rfl rfl rfl Try.underlying25 zc_2 sz_2 by_2 ⟨rfl, rfl, rfl⟩ ⟨by omega, by omega⟩ (fun _ => GR_cons rfl rfl rfl rfl (V_move rfl rfl) (GR_nil)) (fun b19 => ?_)
      refine GT_br ?_ ?_
      · skip
        refine GT_makeSlice rfl rfl rfl rfl rfl rfl rfl Try.underlying100 zc_97 sz_97 by_97 ⟨rfl, rfl, rfl⟩ ⟨by omega, by omega⟩ (fun _ => GR_cons rfl rfl rfl rfl (V_move rfl rfl) (GR_nil)) (fun b21 => ?_)
        refine GT_br ?_ ?_
        · skip
          refine GT_alloc rfl rfl rfl rfl rfl zc_25 (fun _ => GR_cons rfl rfl rfl rfl (V_move rfl rfl) (GR_cons rfl rfl rfl rfl (V_move rfl rfl) (GR_nil))) (fun b4 => ?_)
          refine GT_alloc rfl rfl rfl rfl rfl zc_100 (fun _ => GR_cons rfl rfl rfl rfl (V_move rfl rfl) (GR_cons rfl rfl rfl rfl (V_move rfl rfl) (GR_nil))) (fun b5 => ?_)
          refine GT_store (vs := [_]) (l' := [_]) rfl rfl rfl rfl rfl rfl rfl sz_25 rfl rfl (Nat.le_of_ble_eq_true rfl) rfl (GR_cons rfl rfl rfl rfl (V_move rfl rfl) (GR_nil)) ?_
          refine GT_store (vs := [_]) (l' := [_]) rfl rfl rfl rfl rfl rfl rfl sz_100 rfl rfl (Nat.le_of_ble_eq_true rfl) rfl (GR_nil) ?_
          refine GT_nil ?_
          exact GE_to (hk (b2, b4, b5, b19, b21) trivial) ⟨rfl, rfl, rfl, rfl, rfl, trivial⟩ (HS.cons rfl (HS.cons rfl (HS.cons rfl (HS.cons rfl (HS.cons rfl HS.nil)))))
        · skip
          refine GT_alloc rfl rfl rfl rfl rfl zc_100 (fun _ => GR_cons rfl rfl rfl rfl (V_move rfl rfl) (GR_cons rfl rfl rfl rfl (V_move rfl rfl) (GR_nil))) (fun b5 => ?_)
          refine GT_alloc rfl rfl rfl rfl rfl zc_25 (fun _ => GR_cons rfl rfl rfl rfl (V_move rfl rfl) (GR_cons rfl rfl rfl rfl (V_move rfl rfl) (GR_nil))) (fun b4 => ?_)
          refine GT_store (vs := [_]) (l' := [_]) rfl rfl rfl rfl rfl rfl rfl sz_25 rfl rfl (Nat.le_of_ble_eq_true rfl) rfl (GR_cons rfl rfl rfl rfl (V_move rfl rfl) (GR_nil)) ?_
          refine GT_store (vs := [_]) (l' := [_]) rfl rfl rfl rfl rfl rfl rfl sz_100 rfl rfl (Nat.le_of_ble_eq_true rfl) rfl (GR_nil) ?_
          refine GT_nil ?_
          exact GE_to (hk (b2, b4, b5, b19, b21) trivial) ⟨rfl, rfl, rfl, rfl, rfl, trivial⟩ (HS.cons rfl (HS.cons rfl (HS.cons rfl (HS.cons rfl (HS.cons rfl HS.nil)))))
      · skip
        refine GT_br ?_ ?_
        · skip
          refine GT_alloc rfl rfl rfl rfl rfl zc_25 (fun _ => GR_cons rfl rfl rfl rfl (V_move rfl rfl) (GR_cons rfl rfl rfl rfl (V_move rfl rfl) (GR_nil))) (fun b4 => ?_)
          refine GT_br ?_ ?_
          · skip
            refine GT_makeSlice rfl rfl rfl rfl rfl rfl rfl Try.underlying100 zc_97 sz_97 by_97 ⟨rfl, rfl, rfl⟩ ⟨by omega, by omega⟩ (fun _ => GR_cons rfl rfl rfl rfl (V_move rfl rfl) (GR_nil)) (fun b21 => ?_)
            refine GT_alloc rfl rfl rfl rfl rfl zc_100 (fun _ => GR_cons rfl rfl rfl rfl (V_move rfl rfl) (GR_cons rfl rfl rfl rfl (V_move rfl rfl) (GR_nil))) (fun b5 => ?_)
            refine GT_store (vs := [_]) (l' := [_]) rfl rfl rfl rfl rfl rfl rfl sz_25 rfl rfl (Nat.le_of_ble_eq_true rfl) rfl (GR_cons rfl rfl rfl rfl (V_move rfl rfl) (GR_nil)) ?_
            refine GT_store (vs := [_]) (l' := [_]) rfl rfl rfl rfl rfl rfl rfl sz_100 rfl rfl (Nat.le_of_ble_eq_true rfl) rfl (GR_nil) ?_
            refine GT_nil ?_
            exact GE_to (hk (b2, b4, b5, b19, b21) trivial) ⟨rfl, rfl, rfl, rfl, rfl, trivial⟩ (HS.cons rfl (HS.cons rfl (HS.cons rfl (HS.cons rfl (HS.cons rfl HS.nil)))))
          · skip
            refine GT_alloc rfl rfl rfl rfl rfl zc_100 (fun _ => GR_cons rfl rfl rfl rfl (V_move rfl rfl) (GR_cons rfl rfl rfl rfl (V_move rfl rfl) (GR_nil))) (fun b5 => ?_)
            refine GT_br ?_ ?_
            · skip
              refine GT_makeSlice rfl rfl rfl rfl rfl rfl rfl Try.underlying100 zc_97 sz_97 by_97 ⟨rfl, rfl, rfl⟩ ⟨by omega, by omega⟩ (fun _ => GR_cons rfl rfl rfl rfl (V_move rfl rfl) (GR_nil)) (fun b21 => ?_)
              refine GT_store (vs := [_]) (l' := [_]) rfl rfl rfl rfl rfl rfl rfl sz_25 rfl rfl (Nat.le_of_ble_eq_true rfl) rfl (GR_cons rfl rfl rfl rfl (V_move rfl rfl) (GR_nil)) ?_
              refine GT_store (vs := [_]) (l' := [_]) rfl rfl rfl rfl rfl rfl rfl sz_100 rfl rfl (Nat.le_of_ble_eq_true rfl) rfl (GR_nil) ?_
              refine GT_nil ?_
              exact GE_to (hk (b2, b4, b5, b19, b21) trivial) ⟨rfl, rfl, rfl, rfl, rfl, trivial⟩ (HS.cons rfl (HS.cons rfl (HS.cons rfl (HS.cons rfl (HS.cons rfl HS.nil)))))
            · skip
              refine GT_store (vs := [_]) (l' := [_]) rfl rfl rfl rfl rfl rfl rfl sz_25 rfl rfl (Nat.le_of_ble_eq_true rfl) rfl (GR_cons rfl rfl rfl rfl (V_move rfl rfl) (GR_nil)) ?_
              refine GT_makeSlice rfl rfl rfl rfl rfl rfl rfl Try.underlying100 zc_97 sz_97 by_97 ⟨rfl, rfl, rfl⟩ ⟨by omega, by omega⟩ (fun _ => GR_cons rfl rfl rfl rfl (V_move rfl rfl) (GR_nil)) (fun b21 => ?_)
              refine GT_store (vs := [_]) (l' := [_]) rfl rfl rfl rfl rfl rfl rfl sz_100 rfl rfl (Nat.le_of_ble_eq_true rfl) rfl (GR_nil) ?_
              refine GT_nil ?_
              exact GE_to (hk (b2, b4, b5, b19, b21) trivial) ⟨rfl, rfl, rfl, rfl, rfl, trivial⟩ (HS.cons rfl (HS.cons rfl (HS.cons rfl (HS.cons rfl (HS.cons rfl HS.nil)))))
        · skip
          refine GT_alloc rfl rfl rfl rfl rfl zc_100 (fun _ => GR_cons rfl rfl rfl rfl (V_move rfl rfl) (GR_cons rfl rfl rfl rfl (V_move rfl rfl) (GR_nil))) (fun b5 => ?_)
          refine GT_br ?_ ?_
          · skip
            refine GT_makeSlice rfl rfl rfl rfl rfl rfl rfl Try.underlying100 zc_97 sz_97 by_97 ⟨rfl, rfl, rfl⟩ ⟨by omega, by omega⟩ (fun _ => GR_cons rfl rfl rfl rfl (V_move rfl rfl) (GR_nil)) (fun b21 => ?_)
            refine GT_alloc rfl rfl rfl rfl rfl zc_25 (fun _ => GR_cons rfl rfl rfl rfl (V_move rfl rfl) (GR_cons rfl rfl rfl rfl (V_move rfl rfl) (GR_nil))) (fun b4 => ?_)
            refine GT_store (vs := [_]) (l' := [_]) rfl rfl rfl rfl rfl rfl rfl sz_25 rfl rfl (Nat.le_of_ble_eq_true rfl) rfl (GR_cons rfl rfl rfl rfl (V_move rfl rfl) (GR_nil)) ?_
            refine GT_store (vs := [_]) (l' := [_]) rfl rfl rfl rfl rfl rfl rfl sz_100 rfl rfl (Nat.le_of_ble_eq_true rfl) rfl (GR_nil) ?_
            refine GT_nil ?_
            exact GE_to (hk (b2, b4, b5, b19, b21) trivial) ⟨rfl, rfl, rfl, rfl, rfl, trivial⟩ (HS.cons rfl (HS.cons rfl (HS.cons rfl (HS.cons rfl (HS.cons rfl HS.nil)))))
          · skip
            refine GT_alloc rfl rfl rfl rfl rfl zc_25 (fun _ => GR_cons rfl rfl rfl rfl (V_move rfl rfl) (GR_cons rfl rfl rfl rfl (V_move rfl rfl) (GR_nil))) (fun b4 => ?_)
            refine GT_br ?_ ?_
            · skip
              refine GT_makeSlice rfl rfl rfl rfl rfl rfl rfl Try.underlying100 zc_97 sz_97 by_97 ⟨rfl, rfl, rfl⟩ ⟨by omega, by omega⟩ (fun _ => GR_cons rfl rfl rfl rfl (V_move rfl rfl) (GR_nil)) (fun b21 => ?_)
              refine GT_store (vs := [_]) (l' := [_]) rfl rfl rfl rfl rfl rfl rfl sz_25 rfl rfl (Nat.le_of_ble_eq_true rfl) rfl (GR_cons rfl rfl rfl rfl (V_move rfl rfl) (GR_nil)) ?_
              refine GT_store (vs := [_]) (l' := [_]) rfl rfl rfl rfl rfl rfl rfl sz_100 rfl rfl (Nat.le_of_ble_eq_true rfl) rfl (GR_nil) ?_
              refine GT_nil ?_
              exact GE_to (hk (b2, b4, b5, b19, b21) trivial) ⟨rfl, rfl, rfl, rfl, rfl, trivial⟩ (HS.cons rfl (HS.cons rfl (HS.cons rfl (HS.cons rfl (HS.cons rfl HS.nil)))))
            · skip
              refine GT_store (vs := [_]) (l' := [_]) rfl rfl rfl rfl rfl rfl rfl sz_25 rfl rfl (Nat.le_of_ble_eq_true rfl) rfl (GR_cons rfl rfl rfl rfl (V_move rfl rfl) (GR_nil)) ?_
              refine GT_makeSlice rfl rfl rfl rfl rfl rfl rfl Try.underlying100 zc_97 sz_97 by_97 ⟨rfl, rfl, rfl⟩ ⟨by omega, by omega⟩ (fun _ => GR_cons rfl rfl rfl rfl (V_move rfl rfl) (GR_nil)) (fun b21 => ?_)
              refine GT_store (vs := [_]) (l' := [_]) rfl rfl rfl rfl rfl rfl rfl sz_100 rfl rfl (Nat.le_of_ble_eq_true rfl) rfl (GR_nil) ?_
              refine GT_nil ?_
              exact GE_to (hk (b2, b4, b5, b19, b21) trivial) ⟨rfl, rfl, rfl, rfl, rfl, trivial⟩ (HS.cons rfl (HS.cons rfl (HS.cons rfl (HS.cons rfl (HS.cons rfl HS.nil)))))
    · skip
      refine GT_br ?_ ?_
      · skip
        refine GT_makeSlice rfl rfl rfl rfl rfl rfl rfl Try.underlying100 zc_97 sz_97 by_97 ⟨rfl, rfl, rfl⟩ ⟨by omega, by omega⟩ (fun _ => GR_cons rfl rfl rfl rfl (V_move rfl rfl) (GR_nil)) (fun b21 => ?_)
        refine GT_br ?_ ?_
        · skip
          refine GT_makeSlice rfl rfl rfl rfl rfl rfl rfl Try.underlying25 zc_2 sz_2 by_2 ⟨rfl, rfl, rfl⟩ ⟨by omega, by omega⟩ (fun _ => GR_cons rfl rfl rfl rfl (V_move rfl rfl) (GR_nil)) (fun b19 => ?_)
          refine GT_br ?_ ?_
          · skip
            refine GT_alloc rfl rfl rfl rfl rfl zc_25 (fun _ => GR_cons rfl rfl rfl rfl (V_move rfl rfl) (GR_cons rfl rfl rfl rfl (V_move rfl rfl) (GR_nil))) (fun b4 => ?_)
            refine GT_alloc rfl rfl rfl rfl rfl zc_100 (fun _ => GR_cons rfl rfl rfl rfl (V_move rfl rfl) (GR_cons rfl rfl rfl rfl (V_move rfl rfl) (GR_nil))) (fun b5 => ?_)
            refine GT_store (vs := [_]) (l' := [_]) rfl rfl rfl rfl rfl rfl rfl sz_25 rfl rfl (Nat.le_of_ble_eq_true rfl) rfl (GR_cons rfl rfl rfl rfl (V_move rfl rfl) (GR_nil)) ?_
            refine GT_store (vs := [_]) (l' := [_]) rfl rfl rfl rfl rfl rfl rfl sz_100 rfl rfl (Nat.le_of_ble_eq_true rfl) rfl (GR_nil) ?_
            refine GT_nil ?_
            exact GE_to (hk (b2, b4, b5, b19, b21) trivial) ⟨rfl, rfl, rfl, rfl, rfl, trivial⟩ (HS.cons rfl (HS.cons rfl (HS.cons rfl (HS.cons rfl (HS.cons rfl HS.nil)))))
          · skip
            refine GT_alloc rfl rfl rfl rfl rfl zc_100 (fun _ => GR_cons rfl rfl rfl rfl (V_move rfl rfl) (GR_cons rfl rfl rfl rfl (V_move rfl rfl) (GR_nil))) (fun b5 => ?_)
            refine GT_alloc rfl rfl rfl rfl rfl zc_25 (fun _ => GR_cons rfl rfl rfl rfl (V_move rfl rfl) (GR_cons rfl rfl rfl rfl (V_move rfl rfl) (GR_nil))) (fun b4 => ?_)
            refine GT_store (vs := [_]) (l' := [_]) rfl rfl rfl rfl rfl rfl rfl sz_25 rfl rfl (Nat.le_of_ble_eq_true rfl) rfl (GR_cons rfl rfl rfl rfl (V_move rfl rfl) (GR_nil)) ?_
            refine GT_store (vs := [_]) (l' := [_]) rfl rfl rfl rfl rfl rfl rfl sz_100 rfl rfl (Nat.le_of_ble_eq_true rfl) rfl (GR_nil) ?_
            refine GT_nil ?_
            exact GE_to (hk (b2, b4, b5, b19, b21) trivial) ⟨rfl, rfl, rfl, rfl, rfl, trivial⟩ (HS.cons rfl (HS.cons rfl (HS.cons rfl (HS.cons rfl (HS.cons rfl HS.nil)))))
        · skip
          refine GT_br ?_ ?_
          · skip
            refine GT_alloc rfl rfl rfl rfl rfl zc_25 (fun _ => GR_cons rfl rfl rfl rfl (V_move rfl rfl) (GR_cons rfl rfl rfl rfl (V_move rfl rfl) (GR_nil))) (fun b4 => ?_)
            refine GT_br ?_ ?_
            · skip
              refine GT_makeSlice rfl rfl rfl rfl rfl rfl rfl Try.underlying25 zc_2 sz_2 by_2 ⟨rfl, rfl, rfl⟩ ⟨by omega, by omega⟩ (fun _ => GR_cons rfl rfl rfl rfl (V_move rfl rfl) (GR_nil)) (fun b19 => ?_)
              refine GT_alloc rfl rfl rfl rfl rfl zc_100 (fun _ => GR_cons rfl rfl rfl rfl (V_move rfl rfl) (GR_cons rfl rfl rfl rfl (V_move rfl rfl) (GR_nil))) (fun b5 => ?_)
              refine GT_store (vs := [_]) (l' := [_]) rfl rfl rfl rfl rfl rfl rfl sz_25 rfl rfl (Nat.le_of_ble_eq_true rfl) rfl (GR_cons rfl rfl rfl rfl (V_move rfl rfl) (GR_nil)) ?_
              refine GT_store (vs := [_]) (l' := [_]) rfl rfl rfl rfl rfl rfl rfl sz_100 rfl rfl (Nat.le_of_ble_eq_true rfl) rfl (GR_nil) ?_
              refine GT_nil ?_
              exact GE_to (hk (b2, b4, b5, b19, b21) trivial) ⟨rfl, rfl, rfl, rfl, rfl, trivial⟩ (HS.cons rfl (HS.cons rfl (HS.cons rfl (HS.cons rfl (HS.cons rfl HS.nil)))))
            · skip
              refine GT_alloc rfl rfl rfl rfl rfl zc_100 (fun _ => GR_cons rfl rfl rfl rfl (V_move rfl rfl) (GR_cons rfl rfl rfl rfl (V_move rfl rfl) (GR_nil))) (fun b5 => ?_)
              refine GT_makeSlice rfl rfl rfl rfl rfl rfl rfl Try.underlying25 zc_2 sz_2 by_2 ⟨rfl, rfl, rfl⟩ ⟨by omega, by omega⟩ (fun _ => GR_cons rfl rfl rfl rfl (V_move rfl rfl) (GR_nil)) (fun b19 => ?_)
              refine GT_store (vs := [_]) (l' := [_]) rfl rfl rfl rfl rfl rfl rfl sz_25 rfl rfl (Nat.le_of_ble_eq_true rfl) rfl (GR_cons rfl rfl rfl rfl (V_move rfl rfl) (GR_nil)) ?_
              refine GT_store (vs := [_]) (l' := [_]) rfl rfl rfl rfl rfl rfl rfl sz_100 rfl rfl (Nat.le_of_ble_eq_true rfl) rfl (GR_nil) ?_
              refine GT_nil ?_
              exact GE_to (hk (b2, b4, b5, b19, b21) trivial) ⟨rfl, rfl, rfl, rfl, rfl, trivial⟩ (HS.cons rfl (HS.cons rfl (HS.cons rfl (HS.cons rfl (HS.cons rfl HS.nil)))))
          · skip
            refine GT_alloc rfl rfl rfl rfl rfl zc_100 (fun _ => GR_cons rfl rfl rfl rfl (V_move rfl rfl) (GR_cons rfl rfl rfl rfl (V_move rfl rfl) (GR_nil))) (fun b5 => ?_)
            refine GT_br ?_ ?_
            · skip
              refine GT_makeSlice rfl rfl rfl rfl rfl rfl rfl Try.underlying25 zc_2 sz_2 by_2 ⟨rfl, rfl, rfl⟩ ⟨by omega, by omega⟩ (fun _ => GR_cons rfl rfl rfl rfl (V_move rfl rfl) (GR_nil)) (fun b19 => ?_)
              refine GT_alloc rfl rfl rfl rfl rfl zc_25 (fun _ => GR_cons rfl rfl rfl rfl (V_move rfl rfl) (GR_cons rfl rfl rfl rfl (V_move rfl rfl) (GR_nil))) (fun b4 => ?_)
              refine GT_store (vs := [_]) (l' := [_]) rfl rfl rfl rfl rfl rfl rfl sz_25 rfl rfl (Nat.le_of_ble_eq_true rfl) rfl (GR_cons rfl rfl rfl rfl (V_move rfl rfl) (GR_nil)) ?_
              refine GT_store (vs := [_]) (l' := [_]) rfl rfl rfl rfl rfl rfl rfl sz_100 rfl rfl (Nat.le_of_ble_eq_true rfl) rfl (GR_nil) ?_
              refine GT_nil ?_
              exact GE_to (hk (b2, b4, b5, b19, b21) trivial) ⟨rfl, rfl, rfl, rfl, rfl, trivial⟩ (HS.cons rfl (HS.cons rfl (HS.cons rfl (HS.cons rfl (HS.cons rfl HS.nil)))))
            · skip
              refine GT_alloc rfl rfl rfl rfl rfl zc_25 (fun _ => GR_cons rfl rfl rfl rfl (V_move rfl rfl) (GR_cons rfl rfl rfl rfl (V_move rfl rfl) (GR_nil))) (fun b4 => ?_)
              refine GT_makeSlice rfl rfl rfl rfl rfl rfl rfl Try.underlying25 zc_2 sz_2 by_2 ⟨rfl, rfl, rfl⟩ ⟨by omega, by omega⟩ (fun _ => GR_cons rfl rfl rfl rfl (V_move rfl rfl) (GR_nil)) (fun b19 => ?_)
              refine GT_store (vs := [_]) (l' := [_]) rfl rfl rfl rfl rfl rfl rfl sz_25 rfl rfl (Nat.le_of_ble_eq_true rfl) rfl (GR_cons rfl rfl rfl rfl (V_move rfl rfl) (GR_nil)) ?_
              refine GT_store (vs := [_]) (l' := [_]) rfl rfl rfl rfl rfl rfl rfl sz_100 rfl rfl (Nat.le_of_ble_eq_true rfl) rfl (GR_nil) ?_
              refine GT_nil ?_
              exact GE_to (hk (b2, b4, b5, b19, b21) trivial) ⟨rfl, rfl, rfl, rfl, rfl, trivial⟩ (HS.cons rfl (HS.cons rfl (HS.cons rfl (HS.cons rfl (HS.cons rfl HS.nil)))))
      · skip
        refine GT_br ?_ ?_
        · skip
          refine GT_alloc rfl rfl rfl rfl rfl zc_25 (fun _ => GR_cons rfl rfl rfl rfl (V_move rfl rfl) (GR_cons rfl rfl rfl rfl (V_move rfl rfl) (GR_nil))) (fun b4 => ?_)
          refine GT_br ?_ ?_
          · skip
            refine GT_makeSlice rfl rfl rfl rfl rfl rfl rfl Try.underlying25 zc_2 sz_2 by_2 ⟨rfl, rfl, rfl⟩ ⟨by omega, by omega⟩ (fun _ => GR_cons rfl rfl rfl rfl (V_move rfl rfl) (GR_nil)) (fun b19 => ?_)
            refine GT_br ?_ ?_
            · skip
              refine GT_makeSlice rfl rfl rfl rfl rfl rfl rfl Try.underlying100 zc_97 sz_97 by_97 ⟨rfl, rfl, rfl⟩ ⟨by omega, by omega⟩ (fun _ => GR_cons rfl rfl rfl rfl (V_move rfl rfl) (GR_nil)) (fun b21 => ?_)
              refine GT_alloc rfl rfl rfl rfl rfl zc_100 (fun _ => GR_cons rfl rfl rfl rfl (V_move rfl rfl) (GR_cons rfl rfl rfl rfl (V_move rfl rfl) (GR_nil))) (fun b5 => ?_)
              refine GT_store (vs := [_]) (l' := [_]) rfl rfl rfl rfl rfl rfl rfl sz_25 rfl rfl (Nat.le_of_ble_eq_true rfl) rfl (GR_cons rfl rfl rfl rfl (V_move rfl rfl) (GR_nil)) ?_
              refine GT_store (vs := [_]) (l' := [_]) rfl rfl rfl rfl rfl rfl rfl sz_100 rfl rfl (Nat.le_of_ble_eq_true rfl) rfl (GR_nil) ?_
              refine GT_nil ?_
              exact GE_to (hk (b2, b4, b5, b19, b21) trivial) ⟨rfl, rfl, rfl, rfl, rfl, trivial⟩ (HS.cons rfl (HS.cons rfl (HS.cons rfl (HS.cons rfl (HS.cons rfl HS.nil)))))
            · skip
              refine GT_alloc rfl rfl rfl rfl rfl zc_100 (fun _ => GR_cons rfl rfl rfl rfl (V_move rfl rfl) (GR_cons rfl rfl rfl rfl (V_move rfl rfl) (GR_nil))) (fun b5 => ?_)
              refine GT_br ?_ ?_
              · skip
                refine GT_makeSlice rfl rfl rfl rfl rfl rfl rfl Try.underlying100 zc_97 sz_97 by_97 ⟨rfl, rfl, rfl⟩ ⟨by omega, by omega⟩ (fun _ => GR_cons rfl rfl rfl rfl (V_move rfl rfl) (GR_nil)) (fun b21 => ?_)
                refine GT_store (vs := [_]) (l' := [_]) rfl rfl rfl rfl rfl rfl rfl sz_25 rfl rfl (Nat.le_of_ble_eq_true rfl) rfl (GR_cons rfl rfl rfl rfl (V_move rfl rfl) (GR_nil)) ?_
                refine GT_store (vs := [_]) (l' := [_]) rfl rfl rfl rfl rfl rfl rfl sz_100 rfl rfl (Nat.le_of_ble_eq_true rfl) rfl (GR_nil) ?_
                refine GT_nil ?_
                exact GE_to (hk (b2, b4, b5, b19, b21) trivial) ⟨rfl, rfl, rfl, rfl, rfl, trivial⟩ (HS.cons rfl (HS.cons rfl (HS.cons rfl (HS.cons rfl (HS.cons rfl HS.nil)))))
              · skip
                refine GT_store (vs := [_]) (l' := [_]) rfl rfl rfl rfl rfl rfl rfl sz_25 rfl rfl (Nat.le_of_ble_eq_true rfl) rfl (GR_cons rfl rfl rfl rfl (V_move rfl rfl) (GR_nil)) ?_
                refine GT_makeSlice rfl rfl rfl rfl rfl rfl rfl Try.underlying100 zc_97 sz_97 by_97 ⟨rfl, rfl, rfl⟩ ⟨by omega, by omega⟩ (fun _ => GR_cons rfl rfl rfl rfl (V_move rfl rfl) (GR_nil)) (fun b21 => ?_)
                refine GT_store (vs := [_]) (l' := [_]) rfl rfl rfl rfl rfl rfl rfl sz_100 rfl rfl (Nat.le_of_ble_eq_true rfl) rfl (GR_nil) ?_
                refine GT_nil ?_
                exact GE_to (hk (b2, b4, b5, b19, b21) trivial) ⟨rfl, rfl, rfl, rfl, rfl, trivial⟩ (HS.cons rfl (HS.cons rfl (HS.cons rfl (HS.cons rfl (HS.cons rfl HS.nil)))))
          · skip
            refine GT_br ?_ ?_
            · skip
              refine GT_makeSlice rfl rfl rfl rfl rfl rfl rfl Try.underlying100 zc_97 sz_97 by_97 ⟨rfl, rfl, rfl⟩ ⟨by omega, by omega⟩ (fun _ => GR_cons rfl rfl rfl rfl (V_move rfl rfl) (GR_nil)) (fun b21 => ?_)
              refine GT_br ?_ ?_
              · skip
                refine GT_makeSlice rfl rfl rfl rfl rfl rfl rfl Try.underlying25 zc_2 sz_2 by_2 ⟨rfl, rfl, rfl⟩ ⟨by omega, by omega⟩ (fun _ => GR_cons rfl rfl rfl rfl (V_move rfl rfl) (GR_nil)) (fun b19 => ?_)
                refine GT_alloc rfl rfl rfl rfl rfl zc_100 (fun _ => GR_cons rfl rfl rfl rfl (V_move rfl rfl) (GR_cons rfl rfl rfl rfl (V_move rfl rfl) (GR_nil))) (fun b5 => ?_)
                refine GT_store (vs := [_]) (l' := [_]) rfl rfl rfl rfl rfl rfl rfl sz_25 rfl rfl (Nat.le_of_ble_eq_true rfl) rfl (GR_cons rfl rfl rfl rfl (V_move rfl rfl) (GR_nil)) ?_
                refine GT_store (vs := [_]) (l' := [_]) rfl rfl rfl rfl rfl rfl rfl sz_100 rfl rfl (Nat.le_of_ble_eq_true rfl) rfl (GR_nil) ?_
                refine GT_nil ?_
                exact GE_to (hk (b2, b4, b5, b19, b21) trivial) ⟨rfl, rfl, rfl, rfl, rfl, trivial⟩ (HS.cons rfl (HS.cons rfl (HS.cons rfl (HS.cons rfl (HS.cons rfl HS.nil)))))
              · skip
                refine GT_alloc rfl rfl rfl rfl rfl zc_100 (fun _ => GR_cons rfl rfl rfl rfl (V_move rfl rfl) (GR_cons rfl rfl rfl rfl (V_move rfl rfl) (GR_nil))) (fun b5 => ?_)
                refine GT_makeSlice rfl rfl rfl rfl rfl rfl rfl Try.underlying25 zc_2 sz_2 by_2 ⟨rfl, rfl, rfl⟩ ⟨by omega, by omega⟩ (fun _ => GR_cons rfl rfl rfl rfl (V_move rfl rfl) (GR_nil)) (fun b19 => ?_)
                refine GT_store (vs := [_]) (l' := [_]) rfl rfl rfl rfl rfl rfl rfl sz_25 rfl rfl (Nat.le_of_ble_eq_true rfl) rfl (GR_cons rfl rfl rfl rfl (V_move rfl rfl) (GR_nil)) ?_
                refine GT_store (vs := [_]) (l' := [_]) rfl rfl rfl rfl rfl rfl rfl sz_100 rfl rfl (Nat.le_of_ble_eq_true rfl) rfl (GR_nil) ?_
                refine GT_nil ?_
                exact GE_to (hk (b2, b4, b5, b19, b21) trivial) ⟨rfl, rfl, rfl, rfl, rfl, trivial⟩ (HS.cons rfl (HS.cons rfl (HS.cons rfl (HS.cons rfl (HS.cons rfl HS.nil)))))
            · skip
              refine GT_alloc rfl rfl rfl rfl rfl zc_100 (fun _ => GR_cons rfl rfl rfl rfl (V_move rfl rfl) (GR_cons rfl rfl rfl rfl (V_move rfl rfl) (GR_nil))) (fun b5 => ?_)
              refine GT_br ?_ ?_
              · skip
                refine GT_makeSlice rfl rfl rfl rfl rfl rfl rfl Try.underlying25 zc_2 sz_2 by_2 ⟨rfl, rfl, rfl⟩ ⟨by omega, by omega⟩ (fun _ => GR_cons rfl rfl rfl rfl (V_move rfl rfl) (GR_nil)) (fun b19 => ?_)
                refine GT_br ?_ ?_
                · skip
                  refine GT_makeSlice rfl rfl rfl rfl rfl rfl rfl Try.underlying100 zc_97 sz_97 by_97 ⟨rfl, rfl, rfl⟩ ⟨by omega, by omega⟩ (fun _ => GR_cons rfl rfl rfl rfl (V_move rfl rfl) (GR_nil)) (fun b21 => ?_)
                  refine GT_store (vs := [_]) (l' := [_]) rfl rfl rfl rfl rfl rfl rfl sz_25 rfl rfl (Nat.le_of_ble_eq_true rfl) rfl (GR_cons rfl rfl rfl rfl (V_move rfl rfl) (GR_nil)) ?_
                  refine GT_store (vs := [_]) (l' := [_]) rfl rfl rfl rfl rfl rfl rfl sz_100 rfl rfl (Nat.le_of_ble_eq_true rfl) rfl (GR_nil) ?_
                  refine GT_nil ?_
                  exact GE_to (hk (b2, b4, b5, b19, b21) trivial) ⟨rfl, rfl, rfl, rfl, rfl, trivial⟩ (HS.cons rfl (HS.cons rfl (HS.cons rfl (HS.cons rfl (HS.cons rfl HS.nil)))))
                · skip
                  refine GT_store (vs := [_]) (l' := [_]) rfl rfl rfl rfl rfl rfl rfl sz_25 rfl rfl (Nat.le_of_ble_eq_true rfl) rfl (GR_cons rfl rfl rfl rfl (V_move rfl rfl) (GR_nil)) ?_
                  refine GT_makeSlice rfl rfl rfl rfl rfl rfl rfl Try.underlying100 zc_97 sz_97 by_97 ⟨rfl, rfl, rfl⟩ ⟨by omega, by omega⟩ (fun _ => GR_cons rfl rfl rfl rfl (V_move rfl rfl) (GR_nil)) (fun b21 => ?_)
                  refine GT_store (vs := [_]) (l' := [_]) rfl rfl rfl rfl rfl rfl rfl sz_100 rfl rfl (Nat.le_of_ble_eq_true rfl) rfl (GR_nil) ?_
                  refine GT_nil ?_
                  exact GE_to (hk (b2, b4, b5, b19, b21) trivial) ⟨rfl, rfl, rfl, rfl, rfl, trivial⟩ (HS.cons rfl (HS.cons rfl (HS.cons rfl (HS.cons rfl (HS.cons rfl HS.nil)))))
              · skip
                refine GT_makeSlice rfl rfl rfl rfl rfl rfl rfl Try.underlying100 zc_97 sz_97 by_97 ⟨rfl, rfl, rfl⟩ ⟨by omega, by omega⟩ (fun _ => GR_cons rfl rfl rfl rfl (V_move rfl rfl) (GR_nil)) (fun b21 => ?_)
                refine GT_makeSlice rfl rfl rfl rfl rfl rfl rfl Try.underlying25 zc_2 sz_2 by_2 ⟨rfl, rfl, rfl⟩ ⟨by omega, by omega⟩ (fun _ => GR_cons rfl rfl rfl rfl (V_move rfl rfl) (GR_nil)) (fun b19 => ?_)
                refine GT_store (vs := [_]) (l' := [_]) rfl rfl rfl rfl rfl rfl rfl sz_25 rfl rfl (Nat.le_of_ble_eq_true rfl) rfl (GR_cons rfl rfl rfl rfl (V_move rfl rfl) (GR_nil)) ?_
                refine GT_store (vs := [_]) (l' := [_]) rfl rfl rfl rfl rfl rfl rfl sz_100 rfl rfl (Nat.le_of_ble_eq_true rfl) rfl (GR_nil) ?_
                refine GT_nil ?_
                exact GE_to (hk (b2, b4, b5, b19, b21) trivial) ⟨rfl, rfl, rfl, rfl, rfl, trivial⟩ (HS.cons rfl (HS.cons rfl (HS.cons rfl (HS.cons rfl (HS.cons rfl HS.nil)))))
        · skip
          refine GT_alloc rfl rfl rfl rfl rfl zc_100 (fun _ => GR_cons rfl rfl rfl rfl (V_move rfl rfl) (GR_cons rfl rfl rfl rfl (V_move rfl rfl) (GR_nil))) (fun b5 => ?_)
          refine GT_br ?_ ?_
          · skip
            refine GT_makeSlice rfl rfl rfl rfl rfl rfl rfl Try.underlying25 zc_2 sz_2 by_2 ⟨rfl, rfl, rfl⟩ ⟨by omega, by omega⟩ (fun _ => GR_cons rfl rfl rfl rfl (V_move rfl rfl) (GR_nil)) (fun b19 => ?_)
            refine GT_br ?_ ?_
            · skip
              refine GT_makeSlice rfl rfl rfl rfl rfl rfl rfl Try.underlying100 zc_97 sz_97 by_97 ⟨rfl, rfl, rfl⟩ ⟨by omega, by omega⟩ (fun _ => GR_cons rfl rfl rfl rfl (V_move rfl rfl) (GR_nil)) (fun b21 => ?_)
              refine GT_alloc rfl rfl rfl rfl rfl zc_25 (fun _ => GR_cons rfl rfl rfl rfl (V_move rfl rfl) (GR_cons rfl rfl rfl rfl (V_move rfl rfl) (GR_nil))) (fun b4 => ?_)
              refine GT_store (vs := [_]) (l' := [_]) rfl rfl rfl rfl rfl rfl rfl sz_25 rfl rfl (Nat.le_of_ble_eq_true rfl) rfl (GR_cons rfl rfl rfl rfl (V_move rfl rfl) (GR_nil)) ?_
              refine GT_store (vs := [_]) (l' := [_]) rfl rfl rfl rfl rfl rfl rfl sz_100 rfl rfl (Nat.le_of_ble_eq_true rfl) rfl (GR_nil) ?_
              refine GT_nil ?_
              exact GE_to (hk (b2, b4, b5, b19, b21) trivial) ⟨rfl, rfl, rfl, rfl, rfl, trivial⟩ (HS.cons rfl (HS.cons rfl (HS.cons rfl (HS.cons rfl (HS.cons rfl HS.nil)))))
            · skip
              refine GT_alloc rfl rfl rfl rfl rfl zc_25 (fun _ => GR_cons rfl rfl rfl rfl (V_move rfl rfl) (GR_cons rfl rfl rfl rfl (V_move rfl rfl) (GR_nil))) (fun b4 => ?_)
              refine GT_br ?_ ?_
              · skip
                refine GT_makeSlice rfl rfl rfl rfl rfl rfl rfl Try.underlying100 zc_97 sz_97 by_97 ⟨rfl, rfl, rfl⟩ ⟨by omega, by omega⟩ (fun _ => GR_cons rfl rfl rfl rfl (V_move rfl rfl) (GR_nil)) (fun b21 => ?_)
                refine GT_store (vs := [_]) (l' := [_]) rfl rfl rfl rfl rfl rfl rfl sz_25 rfl rfl (Nat.le_of_ble_eq_true rfl) rfl (GR_cons rfl rfl rfl rfl (V_move rfl rfl) (GR_nil)) ?_
                refine GT_store (vs := [_]) (l' := [_]) rfl rfl rfl rfl rfl rfl rfl sz_100 rfl rfl (Nat.le_of_ble_eq_true rfl) rfl (GR_nil) ?_
                refine GT_nil ?_
                exact GE_to (hk (b2, b4, b5, b19, b21) trivial) ⟨rfl, rfl, rfl, rfl, rfl, trivial⟩ (HS.cons rfl (HS.cons rfl (HS.cons rfl (HS.cons rfl (HS.cons rfl HS.nil)))))
              · skip
                refine GT_store (vs := [_]) (l' := [_]) rfl rfl rfl rfl rfl rfl rfl sz_25 rfl rfl (Nat.le_of_ble_eq_true rfl) rfl (GR_cons rfl rfl rfl rfl (V_move rfl rfl) (GR_nil)) ?_
                refine GT_makeSlice rfl rfl rfl rfl rfl rfl rfl Try.underlying100 zc_97 sz_97 by_97 ⟨rfl, rfl, rfl⟩ ⟨by omega, by omega⟩ (fun _ => GR_cons rfl rfl rfl rfl (V_move rfl rfl) (GR_nil)) (fun b21 => ?_)
                refine GT_store (vs := [_]) (l' := [_]) rfl rfl rfl rfl rfl rfl rfl sz_100 rfl rfl (Nat.le_of_ble_eq_true rfl) rfl (GR_nil) ?_
                refine GT_nil ?_
                exact GE_to (hk (b2, b4, b5, b19, b21) trivial) ⟨rfl, rfl, rfl, rfl, rfl, trivial⟩ (HS.cons rfl (HS.cons rfl (HS.cons rfl (HS.cons rfl (HS.cons rfl HS.nil)))))
          · skip
            refine GT_br ?_ ?_
            · skip
              refine GT_makeSlice rfl rfl rfl rfl rfl rfl rfl Try.underlying100 zc_97 sz_97 by_97 ⟨rfl, rfl, rfl⟩ ⟨by omega, by omega⟩ (fun _ => GR_cons rfl rfl rfl rfl (V_move rfl rfl) (GR_nil)) (fun b21 => ?_)
              refine GT_br ?_ ?_
              · skip
                refine GT_makeSlice rfl rfl rfl rfl rfl rfl rfl Try.underlying25 zc_2 sz_2 by_2 ⟨rfl, rfl, rfl⟩ ⟨by omega, by omega⟩ (fun _ => GR_cons rfl rfl rfl rfl (V_move rfl rfl) (GR_nil)) (fun b19 => ?_)
                refine GT_alloc rfl rfl rfl rfl rfl zc_25 (fun _ => GR_cons rfl rfl rfl rfl (V_move rfl rfl) (GR_cons rfl rfl rfl rfl (V_move rfl rfl) (GR_nil))) (fun b4 => ?_)
                refine GT_store (vs := [_]) (l' := [_]) rfl rfl rfl rfl rfl rfl rfl sz_25 rfl rfl (Nat.le_of_ble_eq_true rfl) rfl (GR_cons rfl rfl rfl rfl (V_move rfl rfl) (GR_nil)) ?_
                refine GT_store (vs := [_]) (l' := [_]) rfl rfl rfl rfl rfl rfl rfl sz_100 rfl rfl (Nat.le_of_ble_eq_true rfl) rfl (GR_nil) ?_
                refine GT_nil ?_
                exact GE_to (hk (b2, b4, b5, b19, b21) trivial) ⟨rfl, rfl, rfl, rfl, rfl, trivial⟩ (HS.cons rfl (HS.cons rfl (HS.cons rfl (HS.cons rfl (HS.cons rfl HS.nil)))))
              · skip
                refine GT_alloc rfl rfl rfl rfl rfl zc_25 (fun _ => GR_cons rfl rfl rfl rfl (V_move rfl rfl) (GR_cons rfl rfl rfl rfl (V_move rfl rfl) (GR_nil))) (fun b4 => ?_)
                refine GT_makeSlice rfl rfl rfl rfl rfl rfl rfl Try.underlying25 zc_2 sz_2 by_2 ⟨rfl, rfl, rfl⟩ ⟨by omega, by omega⟩ (fun _ => GR_cons rfl rfl rfl rfl (V_move rfl rfl) (GR_nil)) (fun b19 => ?_)
                refine GT_store (vs := [_]) (l' := [_]) rfl rfl rfl rfl rfl rfl rfl sz_25 rfl rfl (Nat.le_of_ble_eq_true rfl) rfl (GR_cons rfl rfl rfl rfl (V_move rfl rfl) (GR_nil)) ?_
                refine GT_store (vs := [_]) (l' := [_]) rfl rfl rfl rfl rfl rfl rfl sz_100 rfl rfl (Nat.le_of_ble_eq_true rfl) rfl (GR_nil) ?_
                refine GT_nil ?_
                exact GE_to (hk (b2, b4, b5, b19, b21) trivial) ⟨rfl, rfl, rfl, rfl, rfl, trivial⟩ (HS.cons rfl (HS.cons rfl (HS.cons rfl (HS.cons rfl (HS.cons rfl HS.nil)))))
            · skip
              refine GT_alloc rfl rfl rfl rfl rfl zc_25 (fun _ => GR_cons rfl rfl rfl rfl (V_move rfl rfl) (GR_cons rfl rfl rfl rfl (V_move rfl rfl) (GR_nil))) (fun b4 => ?_)
              refine GT_br ?_ ?_
              · skip
                refine GT_makeSlice rfl rfl rfl rfl rfl rfl rfl Try.underlying25 zc_2 sz_2 by_2 ⟨rfl, rfl, rfl⟩ ⟨by omega, by omega⟩ (fun _ => GR_cons rfl rfl rfl rfl (V_move rfl rfl) (GR_nil)) (fun b19 => ?_)
                refine GT_br ?_ ?_
                · skip
                  refine GT_makeSlice rfl rfl rfl rfl rfl rfl rfl Try.underlying100 zc_97 sz_97 by_97 ⟨rfl, rfl, rfl⟩ ⟨by omega, by omega⟩ (fun _ => GR_cons rfl rfl rfl rfl (V_move rfl rfl) (GR_nil)) (fun b21 => ?_)
                  refine GT_store (vs := [_]) (l' := [_]) rfl rfl rfl rfl rfl rfl rfl sz_25 rfl rfl (Nat.le_of_ble_eq_true rfl) rfl (GR_cons rfl rfl rfl rfl (V_move rfl rfl) (GR_nil)) ?_
                  refine GT_store (vs := [_]) (l' := [_]) rfl rfl rfl rfl rfl rfl rfl sz_100 rfl rfl (Nat.le_of_ble_eq_true rfl) rfl (GR_nil) ?_
                  refine GT_nil ?_
                  exact GE_to (hk (b2, b4, b5, b19, b21) trivial) ⟨rfl, rfl, rfl, rfl, rfl, trivial⟩ (HS.cons rfl (HS.cons rfl (HS.cons rfl (HS.cons rfl (HS.cons rfl HS.nil)))))
                · skip
                  refine GT_store (vs := [_]) (l' := [_]) rfl rfl rfl rfl rfl rfl rfl sz_25 rfl rfl (Nat.le_of_ble_eq_true rfl) rfl (GR_cons rfl rfl rfl rfl (V_move rfl rfl) (GR_nil)) ?_
                  refine GT_makeSlice rfl rfl rfl rfl rfl rfl rfl Try.underlying100 zc_97 sz_97 by_97 ⟨rfl, rfl, rfl⟩ ⟨by omega, by omega⟩ (fun _ => GR_cons rfl rfl rfl rfl (V_move rfl rfl) (GR_nil)) (fun b21 => ?_)
                  refine GT_store (vs := [_]) (l' := [_]) rfl rfl rfl rfl rfl rfl rfl sz_100 rfl rfl (Nat.le_of_ble_eq_true rfl) rfl (GR_nil) ?_
                  refine GT_nil ?_
                  exact GE_to (hk (b2, b4, b5, b19, b21) trivial) ⟨rfl, rfl, rfl, rfl, rfl, trivial⟩ (HS.cons rfl (HS.cons rfl (HS.cons rfl (HS.cons rfl (HS.cons rfl HS.nil)))))
              · skip
                refine GT_makeSlice rfl rfl rfl rfl rfl rfl rfl Try.underlying100 zc_97 sz_97 by_97 ⟨rfl, rfl, rfl⟩ ⟨by omega, by omega⟩ (fun _ => GR_cons rfl rfl rfl rfl (V_move rfl rfl) (GR_nil)) (fun b21 => ?_)
                refine GT_makeSlice rfl rfl rfl rfl rfl rfl rfl Try.underlying25 zc_2 sz_2 by_2 ⟨rfl, rfl, rfl⟩ ⟨by omega, by omega⟩ (fun _ => GR_cons rfl rfl rfl rfl (V_move rfl rfl) (GR_nil)) (fun b19 => ?_)
                refine GT_store (vs := [_]) (l' := [_]) rfl rfl rfl rfl rfl rfl rfl sz_25 rfl rfl (Nat.le_of_ble_eq_true rfl) rfl (GR_cons rfl rfl rfl rfl (V_move rfl rfl) (GR_nil)) ?_
                refine GT_store (vs := [_]) (l' := [_]) rfl rfl rfl rfl rfl rfl rfl sz_100 rfl rfl (Nat.le_of_ble_eq_true rfl) rfl (GR_nil) ?_
                refine GT_nil ?_
                exact GE_to (hk (b2, b4, b5, b19, b21) trivial) ⟨rfl, rfl, rfl, rfl, rfl, trivial⟩ (HS.cons rfl (HS.cons rfl (HS.cons rfl (HS.cons rfl (HS.cons rfl HS.nil)))))
end Go.Proofs.Ytacmnmcaeflflaa
