/- lathe: the function that yields the edges, walked -/
import Derived.Test.YtacmnmcaeflflaaLa4
namespace Go.Proofs.Ytacmnmcaeflflaa
open Go.Sx Go.Proofs

def ruleOf (j : Nat) : Int := if j = 0 then 3 else 5
/-- the first edges: of all samples before k, and j rules of sample k -/
def edgesTo (b : Blank) (l : List Pt) (k j : Nat) : List Edge := (List.range k).flatMap (inward b l) ++ (List.range j).flatMap fun q => optE (edgeOf b l (ruleOf q) k)
theorem edgesTo_succ (b : Blank) (l : List Pt) (k j : Nat) : edgesTo b l k j ++ optE (edgeOf b l (ruleOf j) k) = edgesTo b l k (j + 1) := by simp [edgesTo, List.range_succ]
theorem edgesTo_two (b : Blank) (l : List Pt) (k : Nat) : edgesTo b l k 2 = edgesTo b l (k + 1) 0 := by simp [edgesTo, List.range_succ, inward, ruleOf]
theorem edgesTo_pre {b : Blank} {l : List Pt} {k : Nat} (hk : k < l.length) {j : Nat} (hj : j ≤ 2) : edgesTo b l k j <+: edgeList b l := by
  have h1 : edgesTo b l k j <+: edgesTo b l k 2 := by
    rcases (show j = 0 ∨ j = 1 ∨ j = 2 by omega) with rfl | rfl | rfl
    · exact ⟨_, by rw [← edgesTo_succ, ← edgesTo_succ, List.append_assoc]⟩
    · exact ⟨_, by rw [← edgesTo_succ b l k 1]⟩
    · exact List.prefix_rfl
  have h2 : edgesTo b l k 2 <+: (List.range l.length).flatMap (inward b l) := by
    rw [edgesTo_two]
    obtain ⟨m, hm⟩ : ∃ m, l.length = (k + 1) + m := ⟨l.length - (k + 1), by omega⟩
    rw [hm, List.range_add, List.flatMap_append]
    simp [edgesTo]
  exact h1.trans (h2.trans (List.prefix_append _ _))
/-- the last edges, of d samples -/
def edgesOut (b : Blank) (l : List Pt) (d : Nat) : List Edge := (List.range l.length).flatMap (inward b l) ++ ((List.range (l.length - 1)).reverse.take d).flatMap fun i : Nat => optE (edgeOf b l 4 ((i : Int) + 1))
theorem edgesOut_succ {b : Blank} {l : List Pt} {d : Nat} (hd : d + 1 < l.length) : edgesOut b l d ++ optE (edgeOf b l 4 ((l.length : Int) - 1 - d)) = edgesOut b l (d + 1) := by
  have h : d < (List.range (l.length - 1)).reverse.length := by simp; omega
  unfold edgesOut
  rw [List.take_succ_eq_append_getElem h, List.flatMap_append, List.append_assoc]
  have e : (((List.range (l.length - 1)).reverse[d] : Nat) : Int) + 1 = (l.length : Int) - 1 - d := by
    rw [List.getElem_reverse]; simp; omega
  rw [List.flatMap_singleton, e]
theorem edgesOut_end {b : Blank} {l : List Pt} {d : Nat} (hd : l.length ≤ d + 1) : edgesOut b l d = edgeList b l := by
  unfold edgesOut edgeList
  rw [List.take_of_length_le (by simp; omega)]
theorem edgesOut_pre {b : Blank} {l : List Pt} {d : Nat} : edgesOut b l d <+: edgeList b l := by
  unfold edgesOut edgeList
  rw [List.prefix_append_right_inj]
  exact ⟨((List.range (l.length - 1)).reverse.drop d).flatMap _, by rw [← List.flatMap_append, List.take_append_drop]⟩
theorem optE_true {x : Edge × Bool} (h : x.2 = true) : optE x = [x.1] := by simp [optE, h]
theorem optE_false {x : Edge × Bool} (h : x.2 = false) : optE x = [] := by simp [optE, h]

theorem C_edges1 {b : Blank} {A : Option Addr} {l : List Pt} {c bs bb lp : Nat} {w w0 : World} {J : Items} {Q : List Edge → Items → Prop} (hs : SideAt w0 bs b A l c) (hp : RdL w0 2 ePt A l) (hb : b.ok = true) (hl : l.length ≤ 4096) (hpt : l.all ptOk = true)
    (hY : ∀ pre x J, (pre ++ [x]) <+: edgeList b l → Q pre J → ∀ G, YieldTo Try.prog w0 none' lp [.agg (eEdge x).toArray] (J ++ G) fun v H' => ∃ J', v = .bool true ∧ Q (pre ++ [x]) J' ∧ H' = J' ++ G)
    (hQ : Q [] J) {G : Items} (m : SH w0 none' (J ++ (bb, blk [ptr bs 0] 66) :: G) w) :
    Ret Try.prog 71 [.func (.yield lp) #[] #[], ptr bb 0].toArray w fun v w' => ∃ J', Q (edgeList b l) J' ∧ SH w0 none' (J' ++ (bb, blk [ptr bs 0] 66) :: G) w' := by
  refine Ret_ofH (vs := [_, _]) hm none' Try.func71 rfl Try.ntmps71 rfl m ?_
  dsimp only [slotsOf]
  refine GE_seq ?_
  refine GE_plain (.st 0 (.st 1 (.st 2 (.st 3 (.st 4 (.st 5 .nil)))))) rfl ?_
  first | refine GT_st rfl rfl rfl rfl (V_load rfl rfl ag_66 (CellAt.item rfl)) ?_ | refine GT_st rfl rfl rfl rfl (V_load rfl rfl ag_66 (CellAt.old (hs.cell rfl) (noM _))) ?_
  first | refine GT_st rfl rfl rfl rfl (V_nilCheck rfl rfl) ?_ | refine GT_st rfl rfl rfl rfl (V_nilCheck_func rfl rfl) ?_ | refine GT_st rfl rfl rfl rfl (V_nilCheck_yield rfl rfl) ?_
  first | refine GT_st rfl rfl rfl rfl (V_field rfl rfl fo_92_1) ?_ | refine GT_st rfl rfl rfl rfl (V_fieldA rfl rfl fo_92_1) ?_
  first | refine GT_st rfl rfl rfl rfl (V_load rfl rfl ag_24 (CellAt.item rfl)) ?_ | refine GT_st rfl rfl rfl rfl (V_load rfl rfl ag_24 (CellAt.old (hs.cell rfl) (noM _))) ?_
  refine GT_st rfl rfl rfl rfl (V_len rfl Try.underlying24 rfl) ?_
  refine GT_st rfl rfl rfl rfl (V_assign rfl rfl) ?_
  refine GT_nil ?_
  refine GE_seq ?_
  refine GE_seq ?_
  refine GE_slots (L' := [(0, _), (1, _), (3, _)]) ⟨rfl, rfl, rfl, trivial⟩ ?_
  refine GE_plain (.st 0 (.st 1 .nil)) rfl ?_
  refine GT_st rfl rfl rfl rfl (V_move rfl rfl) ?_
  refine GT_st rfl rfl rfl rfl (V_move rfl rfl) ?_
  refine GT_nil ?_
  refine GE_block ?_
  refine GE_to (GE_loop (ι := Nat × Items) (fun x => l.length - x.1) (fun x => [(0, .func (.yield lp) #[] #[]), (1, ptr bb 0), (3, I l.length), (17, I l.length), (18, I x.1)]) (fun x => x.2 ++ (bb, blk [ptr bs 0] 66) :: G) (fun x => x.1 ≤ l.length ∧ Q (edgesTo b l x.1 0) x.2) ?_ (0, J) ?_) ⟨rfl, rfl, rfl, rfl, rfl, trivial⟩ (HS.chunk (HS.cons rfl HS.last))
  · rintro ⟨k, J1⟩ ⟨hk, hQ1⟩ ih; dsimp only at hk hQ1 ih ⊢
    refine GE_seq ?_
    refine GE_plain (.st 0 .nil) rfl ?_
    refine GT_st rfl rfl rfl rfl (V_lss rfl rfl rfl) ?_
    refine GT_nil ?_
    refine GE_seq ?_
    first | refine GE_condNot rfl (fun h1 => ?_) (fun h1 => ?_) | refine GE_cond rfl (fun h1 => ?_) (fun h1 => ?_) | refine GE_condNotB rfl (fun h1 => ?_) (fun h1 => ?_) | refine GE_condB rfl (fun h1 => ?_) (fun h1 => ?_)
    · have hkl : k < l.length := (by omega)
      refine GE_skip ?_
      refine GE_seq ?_
      refine GE_block ?_
      refine GE_seq ?_
      refine GE_plain (.st 0 (.st 1 .nil)) rfl ?_
      refine GT_st rfl rfl rfl rfl (V_move rfl rfl) ?_
      refine GT_st rfl rfl rfl rfl (V_assign rfl rfl) ?_
      refine GT_nil ?_
      refine GE_seq ?_
      refine GE_plain (.st 0 (.st 1 .nil)) rfl ?_
      refine GT_st rfl rfl rfl rfl (V_build (vs := [_, _]) rfl rfl zc_113 pl_113 sa_113 rfl) ?_
      refine GT_st rfl rfl rfl rfl (V_move rfl rfl) ?_
      refine GT_nil ?_
      refine GE_block ?_
      refine GE_to (GE_loop (ι := Nat × Items) (fun x => 2 - x.1) (fun x => [(0, .func (.yield lp) #[] #[]), (1, ptr bb 0), (3, I l.length), (4, I k), (17, I l.length), (18, I k), (21, .agg #[I 3, I 5]), (22, I x.1)]) (fun x => x.2 ++ (bb, blk [ptr bs 0] 66) :: G) (fun x => x.1 ≤ 2 ∧ Q (edgesTo b l k x.1) x.2) ?_ (0, J1) ?_) ⟨rfl, rfl, rfl, rfl, rfl, rfl, rfl, rfl, trivial⟩ (HS.chunk (HS.cons rfl HS.last))
      · rintro ⟨j, J2⟩ ⟨hj, hQ2⟩ ih2; dsimp only at hj hQ2 ih2 ⊢
        refine GE_seq ?_
        refine GE_plain (.st 0 .nil) rfl ?_
        refine GT_st rfl rfl rfl rfl (V_lss rfl rfl rfl) ?_
        refine GT_nil ?_
        refine GE_seq ?_
        first | refine GE_condNot rfl (fun h2 => ?_) (fun h2 => ?_) | refine GE_cond rfl (fun h2 => ?_) (fun h2 => ?_) | refine GE_condNotB rfl (fun h2 => ?_) (fun h2 => ?_) | refine GE_condB rfl (fun h2 => ?_) (fun h2 => ?_)
        · have hjl : j < 2 := (by omega)
          refine GE_skip ?_
          refine GE_seq ?_
          refine GE_block ?_
          refine GE_seq ?_
          refine GE_plain (.st 0 (.st 1 .nil)) rfl ?_
          refine GT_st rfl rfl rfl rfl (V_indexAgg rfl rfl rfl Try.underlying113 ag_3 sz_3 (kk := j) (v := I (ruleOf j)) rfl (by omega) (by rcases (show j = 0 ∨ j = 1 by omega) with rfl | rfl <;> rfl)) ?_
          refine GT_st rfl rfl rfl rfl (V_assign rfl rfl) ?_
          refine GT_nil ?_
          refine GE_seq ?_
          refine GE_plain (.st 0 (.st 1 (.st 2 (.ld 3 [] (.st 4 (.st 5 (.st 6 (.ld 7 [] (.ld 8 [] (.st 9 .nil)))))))))) rfl ?_
          first | refine GT_st rfl rfl rfl rfl (V_load rfl rfl ag_66 (CellAt.item rfl)) ?_ | refine GT_st rfl rfl rfl rfl (V_load rfl rfl ag_66 (CellAt.old (hs.cell rfl) (noM _))) ?_
          refine GT_st rfl rfl rfl rfl (V_move rfl rfl) ?_
          refine GT_st rfl rfl rfl rfl (V_move rfl rfl) ?_
          refine GT_call0 rfl rfl rfl rfl rfl rfl rfl rfl rn_57 (fun w hw => C_lathe_edge (hs.sh hw) (hp.sh hw) hb hl hpt) (GR_nil) ?_
          refine GT_st rfl rfl rfl rfl (V_move rfl rfl) ?_
          refine GT_st rfl rfl rfl rfl (V_extract rfl rfl rfl) ?_
          refine GT_st rfl rfl rfl rfl (V_extract rfl rfl rfl) ?_
          refine GT_alloc rfl rfl rfl rfl rfl zc_97 (fun _ => GR_nil) (fun b7 => ?_)
          refine GT_store (vs := [_, _, _, _, _]) (l' := [_, _, _, _, _]) rfl rfl rfl rfl rfl rfl rfl sz_97 rfl rfl (Nat.le_of_ble_eq_true rfl) rfl (GR_nil) ?_
          refine GT_st rfl rfl rfl rfl (V_assign rfl rfl) ?_
          refine GT_nil ?_
          refine GE_seq ?_
          refine GE_slots (L' := [(0, _), (1, _), (3, _), (4, _), (7, _), (8, _), (17, _), (18, _), (21, _), (22, _)]) ⟨rfl, rfl, rfl, rfl, rfl, rfl, rfl, rfl, rfl, rfl, trivial⟩ ?_
          refine GE_plain (.st 0 (.st 1 (.st 2 (.st 3 (.ld 4 [] (.st 5 (.st 6 .nil))))))) rfl ?_
          refine GT_st rfl rfl rfl rfl (V_move rfl rfl) ?_
          refine GT_st rfl rfl rfl rfl (V_move rfl rfl) ?_
          first | refine GT_splitNot (d := 33) rfl (fun hfl => ?_) (fun hfl => ?_) | refine GT_split (d := 33) rfl (fun hfl => ?_) (fun hfl => ?_) | refine GT_splitNotB (d := 33) rfl (fun hfl => ?_) (fun hfl => ?_) | refine GT_splitB (d := 33) rfl (fun hfl => ?_) (fun hfl => ?_)
          · have he := optE_true hfl
            refine GT_st_g rfl rfl rfl rfl rfl rfl rfl (V_move rfl rfl) ?_
            refine GT_st_g rfl rfl rfl rfl rfl rfl rfl (V_loadN (vs := [_, _, _, _, _]) rfl rfl ag_97 sz_97 rfl (CellsAt.item rfl)) ?_
            refine GT_yield_g rfl rfl rfl rfl rfl rfl rfl rfl rfl rfl (YieldTo.chunk (hY _ _ _ (by rw [← he, edgesTo_succ]; exact edgesTo_pre hkl (by omega)) hQ2 _)) (fun _ _ _ => GR_nil) (fun v H' hR => ?_)
            obtain ⟨J3, rfl, hQ3, rfl⟩ := hR; rw [← he, edgesTo_succ] at hQ3
            first | refine GT_st_g rfl rfl rfl rfl rfl rfl rfl (V_not rfl rfl) ?_ | refine GT_st_g rfl rfl rfl rfl rfl rfl rfl (V_notB rfl rfl) ?_
            refine GT_st rfl rfl rfl rfl (V_pick_t rfl rfl rfl) ?_
            refine GT_nil ?_
            first | refine GE_condNot rfl (fun hv => ?_) (fun hv => ?_) | refine GE_cond rfl (fun hv => ?_) (fun hv => ?_) | refine GE_condNotB rfl (fun hv => ?_) (fun hv => ?_) | refine GE_condB rfl (fun hv => ?_) (fun hv => ?_)
            · cases hv
            · skip
              refine GE_skip ?_
              refine GE_inBlock ?_
              refine GE_slots (L' := [(0, _), (1, _), (3, _), (4, _), (17, _), (18, _), (21, _), (22, _), (34, _), (35, _), (36, _), (37, _)]) ⟨rfl, rfl, rfl, rfl, rfl, rfl, rfl, rfl, rfl, rfl, rfl, rfl, trivial⟩ ?_
              refine GE_plain (.st 0 (.ld 1 [] .nil)) rfl ?_
              refine GT_st rfl rfl rfl rfl (V_add rfl rfl rfl (wrap_i64 (by omega))) ?_
              refine GT_ldv rfl rfl rfl rfl rfl (V_move rfl rfl) (GR_nil) ?_
              refine GT_nil ?_
              first
                | exact GE_to (ih2 (j + 1, J3) ⟨by dsimp only; omega, hQ3⟩ (by dsimp only; omega)) ⟨rfl, rfl, rfl, rfl, rfl, rfl, rfl, rfl, trivial⟩ (HS.chunk (HS.cons rfl HS.last))
                | exact GE_to (ih2 (j + 1, J2) ⟨by dsimp only; omega, hQ3⟩ (by dsimp only; omega)) ⟨rfl, rfl, rfl, rfl, rfl, rfl, rfl, rfl, trivial⟩ (HS.chunk (HS.cons rfl HS.last))
          · have hQ3 : Q (edgesTo b l k (j + 1)) J2 := (by rw [← edgesTo_succ, optE_false hfl, List.append_nil]; exact hQ2)
            refine GT_skip rfl rfl rfl rfl rfl (by decide) rfl rfl ?_
            refine GT_skip rfl rfl rfl rfl rfl (by decide) rfl rfl ?_
            refine GT_skip_ld rfl rfl rfl rfl rfl (by decide) rfl rfl rfl (GR_nil) ?_
            refine GT_skip rfl rfl rfl rfl rfl (by decide) rfl rfl ?_
            refine GT_st rfl rfl rfl rfl (V_pick_f rfl rfl rfl) ?_
            refine GT_nil ?_
            refine GE_cond_f rfl ?_
            refine GE_skip ?_
            refine GE_inBlock ?_
            refine GE_slots (L' := [(0, _), (1, _), (3, _), (4, _), (17, _), (18, _), (21, _), (22, _), (34, _), (35, _), (36, _), (37, _)]) ⟨rfl, rfl, rfl, rfl, rfl, rfl, rfl, rfl, rfl, rfl, rfl, rfl, trivial⟩ ?_
            refine GE_plain (.st 0 (.ld 1 [] .nil)) rfl ?_
            refine GT_st rfl rfl rfl rfl (V_add rfl rfl rfl (wrap_i64 (by omega))) ?_
            refine GT_ldv rfl rfl rfl rfl rfl (V_move rfl rfl) (GR_nil) ?_
            refine GT_nil ?_
            first
              | exact GE_to (ih2 (j + 1, J3) ⟨by dsimp only; omega, hQ3⟩ (by dsimp only; omega)) ⟨rfl, rfl, rfl, rfl, rfl, rfl, rfl, rfl, trivial⟩ (HS.chunk (HS.cons rfl HS.last))
              | exact GE_to (ih2 (j + 1, J2) ⟨by dsimp only; omega, hQ3⟩ (by dsimp only; omega)) ⟨rfl, rfl, rfl, rfl, rfl, rfl, rfl, rfl, trivial⟩ (HS.chunk (HS.cons rfl HS.last))
        · have hj2 : j = 2 := (by omega)
          refine GE_exit rfl ?_
          refine GE_inBlock ?_
          refine GE_slots (L' := [(0, _), (1, _), (3, _), (17, _), (18, _)]) ⟨rfl, rfl, rfl, rfl, rfl, trivial⟩ ?_
          refine GE_plain (.st 0 (.ld 1 [] .nil)) rfl ?_
          refine GT_st rfl rfl rfl rfl (V_add rfl rfl rfl (wrap_i64 (by omega))) ?_
          refine GT_ldv rfl rfl rfl rfl rfl (V_move rfl rfl) (GR_nil) ?_
          refine GT_nil ?_
          exact GE_to (ih (k + 1, J2) ⟨by dsimp only; omega, by rw [← edgesTo_two, ← hj2]; exact hQ2⟩ (by dsimp only; omega)) ⟨rfl, rfl, rfl, rfl, rfl, trivial⟩ (HS.chunk (HS.cons rfl HS.last))
      · exact ⟨Nat.zero_le _, hQ1⟩
    · obtain rfl : k = l.length := (by omega); have hQe : Q (edgesOut b l 0) J1 := (by simpa [edgesOut, edgesTo] using hQ1)
      refine GE_exit rfl ?_
      refine GE_seq ?_
      refine GE_plain (.st 0 (.st 1 (.st 2 .nil))) rfl ?_
      refine GT_st rfl rfl rfl rfl (V_move rfl rfl) ?_
      refine GT_st rfl rfl rfl rfl (V_sub rfl rfl rfl (wrap_i64 (by omega))) ?_
      refine GT_st rfl rfl rfl rfl (V_assign rfl rfl) ?_
      refine GT_nil ?_
      refine GE_block ?_
      refine GE_to (GE_loop (ι := Nat × Items) (fun x => l.length - x.1) (fun x => [(0, .func (.yield lp) #[] #[]), (1, ptr bb 0), (9, I ((l.length : Int) - 1 - x.1))]) (fun x => x.2 ++ (bb, blk [ptr bs 0] 66) :: G) (fun x => x.1 ≤ l.length ∧ Q (edgesOut b l x.1) x.2) ?_ (0, J1) ?_) ⟨rfl, rfl, lookI rfl (by dsimp only; omega), trivial⟩ (HS.chunk (HS.cons rfl HS.last))
      · rintro ⟨d, J2⟩ ⟨hd, hQ2⟩ ih2; dsimp only at hd hQ2 ih2 ⊢
        refine GE_seq ?_
        refine GE_seq ?_
        refine GE_plain (.st 0 (.st 1 .nil)) rfl ?_
        refine GT_st rfl rfl rfl rfl (V_move rfl rfl) ?_
        refine GT_st rfl rfl rfl rfl (V_gtr rfl rfl rfl) ?_
        refine GT_nil ?_
        first | refine GE_condNot rfl (fun h3 => ?_) (fun h3 => ?_) | refine GE_cond rfl (fun h3 => ?_) (fun h3 => ?_) | refine GE_condNotB rfl (fun h3 => ?_) (fun h3 => ?_) | refine GE_condB rfl (fun h3 => ?_) (fun h3 => ?_)
        · have hdl : d + 1 < l.length := (by omega)
          refine GE_skip ?_
          refine GE_seq ?_
          refine GE_block ?_
          refine GE_seq ?_
          refine GE_plain (.st 0 (.st 1 (.ld 2 [] (.st 3 (.st 4 (.st 5 (.ld 6 [] (.ld 7 [] (.st 8 .nil))))))))) rfl ?_
          first | refine GT_st rfl rfl rfl rfl (V_load rfl rfl ag_66 (CellAt.item rfl)) ?_ | refine GT_st rfl rfl rfl rfl (V_load rfl rfl ag_66 (CellAt.old (hs.cell rfl) (noM _))) ?_
          refine GT_st rfl rfl rfl rfl (V_move rfl rfl) ?_
          refine GT_call0 rfl rfl rfl rfl rfl rfl rfl rfl rn_57 (fun w hw => C_lathe_edge (hs.sh hw) (hp.sh hw) hb hl hpt) (GR_nil) ?_
          refine GT_st rfl rfl rfl rfl (V_move rfl rfl) ?_
          refine GT_st rfl rfl rfl rfl (V_extract rfl rfl rfl) ?_
          refine GT_st rfl rfl rfl rfl (V_extract rfl rfl rfl) ?_
          refine GT_alloc rfl rfl rfl rfl rfl zc_97 (fun _ => GR_nil) (fun b10 => ?_)
          refine GT_store (vs := [_, _, _, _, _]) (l' := [_, _, _, _, _]) rfl rfl rfl rfl rfl rfl rfl sz_97 rfl rfl (Nat.le_of_ble_eq_true rfl) rfl (GR_nil) ?_
          refine GT_st rfl rfl rfl rfl (V_assign rfl rfl) ?_
          refine GT_nil ?_
          refine GE_seq ?_
          refine GE_slots (L' := [(0, _), (1, _), (9, _), (10, _), (11, _)]) ⟨rfl, rfl, rfl, rfl, rfl, trivial⟩ ?_
          refine GE_plain (.st 0 (.st 1 (.st 2 (.st 3 (.ld 4 [] (.st 5 (.st 6 .nil))))))) rfl ?_
          refine GT_st rfl rfl rfl rfl (V_move rfl rfl) ?_
          refine GT_st rfl rfl rfl rfl (V_move rfl rfl) ?_
          first | refine GT_splitNot (d := 54) rfl (fun hfl => ?_) (fun hfl => ?_) | refine GT_split (d := 54) rfl (fun hfl => ?_) (fun hfl => ?_) | refine GT_splitNotB (d := 54) rfl (fun hfl => ?_) (fun hfl => ?_) | refine GT_splitB (d := 54) rfl (fun hfl => ?_) (fun hfl => ?_)
          · have he := optE_true hfl
            refine GT_st_g rfl rfl rfl rfl rfl rfl rfl (V_move rfl rfl) ?_
            refine GT_st_g rfl rfl rfl rfl rfl rfl rfl (V_loadN (vs := [_, _, _, _, _]) rfl rfl ag_97 sz_97 rfl (CellsAt.item rfl)) ?_
            refine GT_yield_g rfl rfl rfl rfl rfl rfl rfl rfl rfl rfl (YieldTo.chunk (hY _ _ _ (by rw [← he, edgesOut_succ hdl]; exact edgesOut_pre) hQ2 _)) (fun _ _ _ => GR_nil) (fun v H' hR => ?_)
            obtain ⟨J3, rfl, hQ3, rfl⟩ := hR; rw [← he, edgesOut_succ hdl] at hQ3
            first | refine GT_st_g rfl rfl rfl rfl rfl rfl rfl (V_not rfl rfl) ?_ | refine GT_st_g rfl rfl rfl rfl rfl rfl rfl (V_notB rfl rfl) ?_
            refine GT_st rfl rfl rfl rfl (V_pick_t rfl rfl rfl) ?_
            refine GT_nil ?_
            first | refine GE_condNot rfl (fun hv => ?_) (fun hv => ?_) | refine GE_cond rfl (fun hv => ?_) (fun hv => ?_) | refine GE_condNotB rfl (fun hv => ?_) (fun hv => ?_) | refine GE_condB rfl (fun hv => ?_) (fun hv => ?_)
            · cases hv
            · skip
              refine GE_skip ?_
              refine GE_inBlock ?_
              refine GE_slots (L' := [(0, _), (1, _), (9, _), (55, _), (56, _), (57, _), (58, _)]) ⟨rfl, rfl, rfl, rfl, rfl, rfl, rfl, trivial⟩ ?_
              refine GE_plain (.st 0 (.st 1 (.ld 2 [] .nil))) rfl ?_
              refine GT_st rfl rfl rfl rfl (V_move rfl rfl) ?_
              refine GT_st rfl rfl rfl rfl (V_sub rfl rfl rfl (wrap_i64 (by omega))) ?_
              refine GT_ldv rfl rfl rfl rfl rfl (V_assign rfl rfl) (GR_nil) ?_
              refine GT_nil ?_
              first
                | exact GE_to (ih2 (d + 1, J3) ⟨by dsimp only; omega, hQ3⟩ (by dsimp only; omega)) ⟨rfl, rfl, lookI rfl (by dsimp only; omega), trivial⟩ (HS.chunk (HS.cons rfl HS.last))
                | exact GE_to (ih2 (d + 1, J2) ⟨by dsimp only; omega, hQ3⟩ (by dsimp only; omega)) ⟨rfl, rfl, lookI rfl (by dsimp only; omega), trivial⟩ (HS.chunk (HS.cons rfl HS.last))
          · have hQ3 : Q (edgesOut b l (d + 1)) J2 := (by rw [← edgesOut_succ hdl, optE_false hfl, List.append_nil]; exact hQ2)
            refine GT_skip rfl rfl rfl rfl rfl (by decide) rfl rfl ?_
            refine GT_skip rfl rfl rfl rfl rfl (by decide) rfl rfl ?_
            refine GT_skip_ld rfl rfl rfl rfl rfl (by decide) rfl rfl rfl (GR_nil) ?_
            refine GT_skip rfl rfl rfl rfl rfl (by decide) rfl rfl ?_
            refine GT_st rfl rfl rfl rfl (V_pick_f rfl rfl rfl) ?_
            refine GT_nil ?_
            refine GE_cond_f rfl ?_
            refine GE_skip ?_
            refine GE_inBlock ?_
            refine GE_slots (L' := [(0, _), (1, _), (9, _), (55, _), (56, _), (57, _), (58, _)]) ⟨rfl, rfl, rfl, rfl, rfl, rfl, rfl, trivial⟩ ?_
            refine GE_plain (.st 0 (.st 1 (.ld 2 [] .nil))) rfl ?_
            refine GT_st rfl rfl rfl rfl (V_move rfl rfl) ?_
            refine GT_st rfl rfl rfl rfl (V_sub rfl rfl rfl (wrap_i64 (by omega))) ?_
            refine GT_ldv rfl rfl rfl rfl rfl (V_assign rfl rfl) (GR_nil) ?_
            refine GT_nil ?_
            first
              | exact GE_to (ih2 (d + 1, J3) ⟨by dsimp only; omega, hQ3⟩ (by dsimp only; omega)) ⟨rfl, rfl, lookI rfl (by dsimp only; omega), trivial⟩ (HS.chunk (HS.cons rfl HS.last))
              | exact GE_to (ih2 (d + 1, J2) ⟨by dsimp only; omega, hQ3⟩ (by dsimp only; omega)) ⟨rfl, rfl, lookI rfl (by dsimp only; omega), trivial⟩ (HS.chunk (HS.cons rfl HS.last))
        · rw [edgesOut_end (by omega)] at hQ2
          refine GE_exit rfl ?_
          refine GE_end Try.func71 rfl (fun w hw => ⟨J2, hQ2, hw⟩)
          skip
      · exact ⟨Nat.zero_le _, hQe⟩
  · exact ⟨Nat.zero_le _, hQ⟩
end Go.Proofs.Ytacmnmcaeflflaa
