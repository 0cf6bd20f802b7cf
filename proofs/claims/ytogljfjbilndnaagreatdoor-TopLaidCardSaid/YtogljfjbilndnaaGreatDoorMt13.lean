/- Texts of this proof, one behind the other: La5, LaV, LaU, La6, LaW, LaX, LaY, LaK, Tp1, La2, La7, La8, La9, LaA, LaB, LaC, LaD, LaN. -/
import Derived.Test.YtogljfjbilndnaaGreatDoorMt12
/- lathe: the function that yields the edges, walked -/
namespace Go.Proofs.YtogljfjbilndnaaGreatDoor.Lathe
open Go.Sx Go.Proofs

def ruleOf (j : Nat) : Int := if j = 0 then 3 else 5
/-- the first edges: of all samples before k, and j rules of sample k -/
def edgesTo (b : Blank) (l : List Pt) (k j : Nat) : List Edge := (List.range k).flatMap (inward b l) ++ (List.range j).flatMap fun q => optE (edgeOf b l (ruleOf q) k)
theorem edgesTo_succ (b : Blank) (l : List Pt) (k j : Nat) : edgesTo b l k j ++ optE (edgeOf b l (ruleOf j) k) = edgesTo b l k (j + 1) := by simp [edgesTo, List.range_succ]
theorem edgesTo_two (b : Blank) (l : List Pt) (k : Nat) : edgesTo b l k 2 = edgesTo b l (k + 1) 0 := by simp [edgesTo, List.range_succ, inward, ruleOf]
theorem edgesTo_pre {b : Blank} {l : List Pt} {k : Nat} (hk : k < l.length) {j : Nat} (hj : j ≤ 2) : edgesTo b l k j <+: edgeList b l := by
  have h1 : edgesTo b l k j <+: edgesTo b l k 2 := by
    rcases (show j = 0 ∨ j = 1 ∨ j = 2 by omega) with rfl | rfl | rfl
    · exact ⟨_, by rw [← edgesTo_succ, ← edgesTo_succ, List.append_assoc]⟩
    · exact ⟨_, by rw [← edgesTo_succ b l k 1]⟩
    · exact List.prefix_rfl
  have h2 : edgesTo b l k 2 <+: (List.range l.length).flatMap (inward b l) := by
    rw [edgesTo_two]
    obtain ⟨m, hm⟩ : ∃ m, l.length = (k + 1) + m := ⟨l.length - (k + 1), by omega⟩
    rw [hm, List.range_add, List.flatMap_append]
    simp [edgesTo]
  exact h1.trans (h2.trans (List.prefix_append _ _))
/-- the last edges, of d samples -/
def edgesOut (b : Blank) (l : List Pt) (d : Nat) : List Edge := (List.range l.length).flatMap (inward b l) ++ ((List.range (l.length - 1)).reverse.take d).flatMap fun i : Nat => optE (edgeOf b l 4 ((i : Int) + 1))
theorem edgesOut_succ {b : Blank} {l : List Pt} {d : Nat} (hd : d + 1 < l.length) : edgesOut b l d ++ optE (edgeOf b l 4 ((l.length : Int) - 1 - d)) = edgesOut b l (d + 1) := by
  have h : d < (List.range (l.length - 1)).reverse.length := by simp; omega
  unfold edgesOut
  rw [List.take_succ_eq_append_getElem h, List.flatMap_append, List.append_assoc]
  have e : (((List.range (l.length - 1)).reverse[d] : Nat) : Int) + 1 = (l.length : Int) - 1 - d := by
    rw [List.getElem_reverse]; simp; omega
  rw [List.flatMap_singleton, e]
theorem edgesOut_end {b : Blank} {l : List Pt} {d : Nat} (hd : l.length ≤ d + 1) : edgesOut b l d = edgeList b l := by
  unfold edgesOut edgeList
  rw [List.take_of_length_le (by simp; omega)]
theorem edgesOut_pre {b : Blank} {l : List Pt} {d : Nat} : edgesOut b l d <+: edgeList b l := by
  unfold edgesOut edgeList
  rw [List.prefix_append_right_inj]
  exact ⟨((List.range (l.length - 1)).reverse.drop d).flatMap _, by rw [← List.flatMap_append, List.take_append_drop]⟩
theorem optE_true {x : Edge × Bool} (h : x.2 = true) : optE x = [x.1] := by simp [optE, h]
theorem optE_false {x : Edge × Bool} (h : x.2 = false) : optE x = [] := by simp [optE, h]

theorem C_edges1 {b : Blank} {A : Option Addr} {l : List Pt} {c bs bb lp : Nat} {w w0 : World} {J : Items} {Q : List Edge → Items → Prop} (hs : SideAt w0 bs b A l c) (hp : RdL w0 2 ePt A l) (hb : b.ok = true) (hl : l.length ≤ 4096) (hpt : l.all ptOk = true)
    (hY : ∀ pre x J, (pre ++ [x]) <+: edgeList b l → Q pre J → ∀ G, YieldTo Tryz.prog w0 none' lp [.agg (eEdge x).toArray] (J ++ G) fun v H' => ∃ J', v = .bool true ∧ Q (pre ++ [x]) J' ∧ H' = J' ++ G)
    (hQ : Q [] J) {G : Items} (m : SH w0 none' (J ++ (bb, blk [ptr bs 0] 59) :: G) w) :
    Ret Tryz.prog 56 [.func (.yield lp) #[] #[], ptr bb 0].toArray w fun v w' => ∃ J', Q (edgeList b l) J' ∧ SH w0 none' (J' ++ (bb, blk [ptr bs 0] 59) :: G) w' := by
  refine Ret_ofH (vs := [_, _]) hm none' Tryz.func56 rfl Tryz.ntmps56 rfl m ?_
  dsimp only [slotsOf]
  refine GE_seq ?_
  refine GE_plain (.st 0 (.st 1 (.st 2 (.st 3 (.st 4 (.st 5 .nil)))))) rfl ?_
  first | refine GT_st rfl rfl rfl rfl (V_load rfl rfl ag_59 (CellAt.item rfl)) ?_ | refine GT_st rfl rfl rfl rfl (V_load rfl rfl ag_59 (CellAt.old (hs.cell rfl) (noM _))) ?_
  first | refine GT_st rfl rfl rfl rfl (V_nilCheck rfl rfl) ?_ | refine GT_st rfl rfl rfl rfl (V_nilCheck_func rfl rfl) ?_ | refine GT_st rfl rfl rfl rfl (V_nilCheck_yield rfl rfl) ?_
  first | refine GT_st rfl rfl rfl rfl (V_field rfl rfl fo_102_1) ?_ | refine GT_st rfl rfl rfl rfl (V_fieldA rfl rfl fo_102_1) ?_
  first | refine GT_st rfl rfl rfl rfl (V_load rfl rfl ag_30 (CellAt.item rfl)) ?_ | refine GT_st rfl rfl rfl rfl (V_load rfl rfl ag_30 (CellAt.old (hs.cell rfl) (noM _))) ?_
  refine GT_st rfl rfl rfl rfl (V_len rfl Tryz.underlying30 rfl) ?_
  refine GT_st rfl rfl rfl rfl (V_assign rfl rfl) ?_
  refine GT_nil ?_
  refine GE_seq ?_
  refine GE_seq ?_
  refine GE_slots (L' := [(0, _), (1, _), (3, _)]) ⟨rfl, rfl, rfl, trivial⟩ ?_
  refine GE_plain (.st 0 (.st 1 .nil)) rfl ?_
  refine GT_st rfl rfl rfl rfl (V_move rfl rfl) ?_
  refine GT_st rfl rfl rfl rfl (V_move rfl rfl) ?_
  refine GT_nil ?_
  refine GE_block ?_
  refine GE_to (GE_loop (ι := Nat × Items) (fun x => l.length - x.1) (fun x => [(0, .func (.yield lp) #[] #[]), (1, ptr bb 0), (3, I l.length), (17, I l.length), (18, I x.1)]) (fun x => x.2 ++ (bb, blk [ptr bs 0] 59) :: G) (fun x => x.1 ≤ l.length ∧ Q (edgesTo b l x.1 0) x.2) ?_ (0, J) ?_) ⟨rfl, rfl, rfl, rfl, rfl, trivial⟩ (HS.chunk (HS.cons rfl HS.last))
  · rintro ⟨k, J1⟩ ⟨hk, hQ1⟩ ih; dsimp only at hk hQ1 ih ⊢
    refine GE_seq ?_
    refine GE_plain (.st 0 .nil) rfl ?_
    refine GT_st rfl rfl rfl rfl (V_lss rfl rfl rfl) ?_
    refine GT_nil ?_
    refine GE_seq ?_
    first | refine GE_condNot rfl (fun h1 => ?_) (fun h1 => ?_) | refine GE_cond rfl (fun h1 => ?_) (fun h1 => ?_) | refine GE_condNotB rfl (fun h1 => ?_) (fun h1 => ?_) | refine GE_condB rfl (fun h1 => ?_) (fun h1 => ?_)
    · have hkl : k < l.length := (by omega)
      refine GE_skip ?_
      refine GE_seq ?_
      refine GE_block ?_
      refine GE_seq ?_
      refine GE_plain (.st 0 (.st 1 .nil)) rfl ?_
      refine GT_st rfl rfl rfl rfl (V_move rfl rfl) ?_
      refine GT_st rfl rfl rfl rfl (V_assign rfl rfl) ?_
      refine GT_nil ?_
      refine GE_seq ?_
      refine GE_plain (.st 0 (.st 1 .nil)) rfl ?_
      refine GT_st rfl rfl rfl rfl (V_build (vs := [_, _]) rfl rfl zc_141 pl_141 sa_141 rfl) ?_
      refine GT_st rfl rfl rfl rfl (V_move rfl rfl) ?_
      refine GT_nil ?_
      refine GE_block ?_
      refine GE_to (GE_loop (ι := Nat × Items) (fun x => 2 - x.1) (fun x => [(0, .func (.yield lp) #[] #[]), (1, ptr bb 0), (3, I l.length), (4, I k), (17, I l.length), (18, I k), (21, .agg #[I 3, I 5]), (22, I x.1)]) (fun x => x.2 ++ (bb, blk [ptr bs 0] 59) :: G) (fun x => x.1 ≤ 2 ∧ Q (edgesTo b l k x.1) x.2) ?_ (0, J1) ?_) ⟨rfl, rfl, rfl, rfl, rfl, rfl, rfl, rfl, trivial⟩ (HS.chunk (HS.cons rfl HS.last))
      · rintro ⟨j, J2⟩ ⟨hj, hQ2⟩ ih2; dsimp only at hj hQ2 ih2 ⊢
        refine GE_seq ?_
        refine GE_plain (.st 0 .nil) rfl ?_
        refine GT_st rfl rfl rfl rfl (V_lss rfl rfl rfl) ?_
        refine GT_nil ?_
        refine GE_seq ?_
        first | refine GE_condNot rfl (fun h2 => ?_) (fun h2 => ?_) | refine GE_cond rfl (fun h2 => ?_) (fun h2 => ?_) | refine GE_condNotB rfl (fun h2 => ?_) (fun h2 => ?_) | refine GE_condB rfl (fun h2 => ?_) (fun h2 => ?_)
        · have hjl : j < 2 := (by omega)
          refine GE_skip ?_
          refine GE_seq ?_
          refine GE_block ?_
          refine GE_seq ?_
          refine GE_plain (.st 0 (.st 1 .nil)) rfl ?_
          refine GT_st rfl rfl rfl rfl (V_indexAgg rfl rfl rfl Tryz.underlying141 ag_3 sz_3 (kk := j) (v := I (ruleOf j)) rfl (by omega) (by rcases (show j = 0 ∨ j = 1 by omega) with rfl | rfl <;> rfl)) ?_
          refine GT_st rfl rfl rfl rfl (V_assign rfl rfl) ?_
          refine GT_nil ?_
          refine GE_seq ?_
          refine GE_plain (.st 0 (.st 1 (.st 2 (.ld 3 [] (.st 4 (.st 5 (.st 6 (.ld 7 [] (.ld 8 [] (.st 9 .nil)))))))))) rfl ?_
          first | refine GT_st rfl rfl rfl rfl (V_load rfl rfl ag_59 (CellAt.item rfl)) ?_ | refine GT_st rfl rfl rfl rfl (V_load rfl rfl ag_59 (CellAt.old (hs.cell rfl) (noM _))) ?_
          refine GT_st rfl rfl rfl rfl (V_move rfl rfl) ?_
          refine GT_st rfl rfl rfl rfl (V_move rfl rfl) ?_
          refine GT_call0 rfl rfl rfl rfl rfl rfl rfl rfl rn_23 (fun w hw => C_lathe_edge (hs.sh hw) (hp.sh hw) hb hl hpt) (GR_nil) ?_
          refine GT_st rfl rfl rfl rfl (V_move rfl rfl) ?_
          refine GT_st rfl rfl rfl rfl (V_extract rfl rfl rfl) ?_
          refine GT_st rfl rfl rfl rfl (V_extract rfl rfl rfl) ?_
          refine GT_alloc rfl rfl rfl rfl rfl zc_72 (fun _ => GR_nil) (fun b7 => ?_)
          refine GT_store (vs := [_, _, _, _, _]) (l' := [_, _, _, _, _]) rfl rfl rfl rfl rfl rfl rfl sz_72 rfl rfl (Nat.le_of_ble_eq_true rfl) rfl (GR_nil) ?_
          refine GT_st rfl rfl rfl rfl (V_assign rfl rfl) ?_
          refine GT_nil ?_
          refine GE_seq ?_
          refine GE_slots (L' := [(0, _), (1, _), (3, _), (4, _), (7, _), (8, _), (17, _), (18, _), (21, _), (22, _)]) ⟨rfl, rfl, rfl, rfl, rfl, rfl, rfl, rfl, rfl, rfl, trivial⟩ ?_
          refine GE_plain (.st 0 (.st 1 (.st 2 (.st 3 (.ld 4 [] (.st 5 (.st 6 .nil))))))) rfl ?_
          refine GT_st rfl rfl rfl rfl (V_move rfl rfl) ?_
          refine GT_st rfl rfl rfl rfl (V_move rfl rfl) ?_
          first | refine GT_splitNot (d := 33) rfl (fun hfl => ?_) (fun hfl => ?_) | refine GT_split (d := 33) rfl (fun hfl => ?_) (fun hfl => ?_) | refine GT_splitNotB (d := 33) rfl (fun hfl => ?_) (fun hfl => ?_) | refine GT_splitB (d := 33) rfl (fun hfl => ?_) (fun hfl => ?_)
          · have he := optE_true hfl
            refine GT_st_g rfl rfl rfl rfl rfl rfl rfl (V_move rfl rfl) ?_
            refine GT_st_g rfl rfl rfl rfl rfl rfl rfl (V_loadN (vs := [_, _, _, _, _]) rfl rfl ag_72 sz_72 rfl (CellsAt.item rfl)) ?_
            refine GT_yield_g rfl rfl rfl rfl rfl rfl rfl rfl rfl rfl (YieldTo.chunk (hY _ _ _ (by rw [← he, edgesTo_succ]; exact edgesTo_pre hkl (by omega)) hQ2 _)) (fun _ _ _ => GR_nil) (fun v H' hR => ?_)
            obtain ⟨J3, rfl, hQ3, rfl⟩ := hR; rw [← he, edgesTo_succ] at hQ3
            first | refine GT_st_g rfl rfl rfl rfl rfl rfl rfl (V_not rfl rfl) ?_ | refine GT_st_g rfl rfl rfl rfl rfl rfl rfl (V_notB rfl rfl) ?_
            refine GT_st rfl rfl rfl rfl (V_pick_t rfl rfl rfl) ?_
            refine GT_nil ?_
            first | refine GE_condNot rfl (fun hv => ?_) (fun hv => ?_) | refine GE_cond rfl (fun hv => ?_) (fun hv => ?_) | refine GE_condNotB rfl (fun hv => ?_) (fun hv => ?_) | refine GE_condB rfl (fun hv => ?_) (fun hv => ?_)
            · cases hv
            · skip
              refine GE_skip ?_
              refine GE_inBlock ?_
              refine GE_slots (L' := [(0, _), (1, _), (3, _), (4, _), (17, _), (18, _), (21, _), (22, _), (34, _), (35, _), (36, _), (37, _)]) ⟨rfl, rfl, rfl, rfl, rfl, rfl, rfl, rfl, rfl, rfl, rfl, rfl, trivial⟩ ?_
              refine GE_plain (.st 0 (.ld 1 [] .nil)) rfl ?_
              refine GT_st rfl rfl rfl rfl (V_add rfl rfl rfl (wrap_i64 (by omega))) ?_
              refine GT_ldv rfl rfl rfl rfl rfl (V_move rfl rfl) (GR_nil) ?_
              refine GT_nil ?_
              first
                | exact GE_to (ih2 (j + 1, J3) ⟨by dsimp only; omega, hQ3⟩ (by dsimp only; omega)) ⟨rfl, rfl, rfl, rfl, rfl, rfl, rfl, rfl, trivial⟩ (HS.chunk (HS.cons rfl HS.last))
                | exact GE_to (ih2 (j + 1, J2) ⟨by dsimp only; omega, hQ3⟩ (by dsimp only; omega)) ⟨rfl, rfl, rfl, rfl, rfl, rfl, rfl, rfl, trivial⟩ (HS.chunk (HS.cons rfl HS.last))
          · have hQ3 : Q (edgesTo b l k (j + 1)) J2 := (by rw [← edgesTo_succ, optE_false hfl, List.append_nil]; exact hQ2)
            refine GT_skip rfl rfl rfl rfl rfl (by decide) rfl rfl ?_
            refine GT_skip rfl rfl rfl rfl rfl (by decide) rfl rfl ?_
            refine GT_skip_ld rfl rfl rfl rfl rfl (by decide) rfl rfl rfl (GR_nil) ?_
            refine GT_skip rfl rfl rfl rfl rfl (by decide) rfl rfl ?_
            refine GT_st rfl rfl rfl rfl (V_pick_f rfl rfl rfl) ?_
            refine GT_nil ?_
            refine GE_cond_f rfl ?_
            refine GE_skip ?_
            refine GE_inBlock ?_
            refine GE_slots (L' := [(0, _), (1, _), (3, _), (4, _), (17, _), (18, _), (21, _), (22, _), (34, _), (35, _), (36, _), (37, _)]) ⟨rfl, rfl, rfl, rfl, rfl, rfl, rfl, rfl, rfl, rfl, rfl, rfl, trivial⟩ ?_
            refine GE_plain (.st 0 (.ld 1 [] .nil)) rfl ?_
            refine GT_st rfl rfl rfl rfl (V_add rfl rfl rfl (wrap_i64 (by omega))) ?_
            refine GT_ldv rfl rfl rfl rfl rfl (V_move rfl rfl) (GR_nil) ?_
            refine GT_nil ?_
            first
              | exact GE_to (ih2 (j + 1, J3) ⟨by dsimp only; omega, hQ3⟩ (by dsimp only; omega)) ⟨rfl, rfl, rfl, rfl, rfl, rfl, rfl, rfl, trivial⟩ (HS.chunk (HS.cons rfl HS.last))
              | exact GE_to (ih2 (j + 1, J2) ⟨by dsimp only; omega, hQ3⟩ (by dsimp only; omega)) ⟨rfl, rfl, rfl, rfl, rfl, rfl, rfl, rfl, trivial⟩ (HS.chunk (HS.cons rfl HS.last))
        · have hj2 : j = 2 := (by omega)
          refine GE_exit rfl ?_
          refine GE_inBlock ?_
          refine GE_slots (L' := [(0, _), (1, _), (3, _), (17, _), (18, _)]) ⟨rfl, rfl, rfl, rfl, rfl, trivial⟩ ?_
          refine GE_plain (.st 0 (.ld 1 [] .nil)) rfl ?_
          refine GT_st rfl rfl rfl rfl (V_add rfl rfl rfl (wrap_i64 (by omega))) ?_
          refine GT_ldv rfl rfl rfl rfl rfl (V_move rfl rfl) (GR_nil) ?_
          refine GT_nil ?_
          exact GE_to (ih (k + 1, J2) ⟨by dsimp only; omega, by rw [← edgesTo_two, ← hj2]; exact hQ2⟩ (by dsimp only; omega)) ⟨rfl, rfl, rfl, rfl, rfl, trivial⟩ (HS.chunk (HS.cons rfl HS.last))
      · exact ⟨Nat.zero_le _, hQ1⟩
    · obtain rfl : k = l.length := (by omega); have hQe : Q (edgesOut b l 0) J1 := (by simpa [edgesOut, edgesTo] using hQ1)
      refine GE_exit rfl ?_
      refine GE_seq ?_
      refine GE_plain (.st 0 (.st 1 (.st 2 .nil))) rfl ?_
      refine GT_st rfl rfl rfl rfl (V_move rfl rfl) ?_
      refine GT_st rfl rfl rfl rfl (V_sub rfl rfl rfl (wrap_i64 (by omega))) ?_
      refine GT_st rfl rfl rfl rfl (V_assign rfl rfl) ?_
      refine GT_nil ?_
      refine GE_block ?_
      refine GE_to (GE_loop (ι := Nat × Items) (fun x => l.length - x.1) (fun x => [(0, .func (.yield lp) #[] #[]), (1, ptr bb 0), (9, I ((l.length : Int) - 1 - x.1))]) (fun x => x.2 ++ (bb, blk [ptr bs 0] 59) :: G) (fun x => x.1 ≤ l.length ∧ Q (edgesOut b l x.1) x.2) ?_ (0, J1) ?_) ⟨rfl, rfl, lookI rfl (by dsimp only; omega), trivial⟩ (HS.chunk (HS.cons rfl HS.last))
      · rintro ⟨d, J2⟩ ⟨hd, hQ2⟩ ih2; dsimp only at hd hQ2 ih2 ⊢
        refine GE_seq ?_
        refine GE_seq ?_
        refine GE_plain (.st 0 (.st 1 .nil)) rfl ?_
        refine GT_st rfl rfl rfl rfl (V_move rfl rfl) ?_
        refine GT_st rfl rfl rfl rfl (V_gtr rfl rfl rfl) ?_
        refine GT_nil ?_
        first | refine GE_condNot rfl (fun h3 => ?_) (fun h3 => ?_) | refine GE_cond rfl (fun h3 => ?_) (fun h3 => ?_) | refine GE_condNotB rfl (fun h3 => ?_) (fun h3 => ?_) | refine GE_condB rfl (fun h3 => ?_) (fun h3 => ?_)
        · have hdl : d + 1 < l.length := (by omega)
          refine GE_skip ?_
          refine GE_seq ?_
          refine GE_block ?_
          refine GE_seq ?_
          refine GE_plain (.st 0 (.st 1 (.ld 2 [] (.st 3 (.st 4 (.st 5 (.ld 6 [] (.ld 7 [] (.st 8 .nil))))))))) rfl ?_
          first | refine GT_st rfl rfl rfl rfl (V_load rfl rfl ag_59 (CellAt.item rfl)) ?_ | refine GT_st rfl rfl rfl rfl (V_load rfl rfl ag_59 (CellAt.old (hs.cell rfl) (noM _))) ?_
          refine GT_st rfl rfl rfl rfl (V_move rfl rfl) ?_
          refine GT_call0 rfl rfl rfl rfl rfl rfl rfl rfl rn_23 (fun w hw => C_lathe_edge (hs.sh hw) (hp.sh hw) hb hl hpt) (GR_nil) ?_
          refine GT_st rfl rfl rfl rfl (V_move rfl rfl) ?_
          refine GT_st rfl rfl rfl rfl (V_extract rfl rfl rfl) ?_
          refine GT_st rfl rfl rfl rfl (V_extract rfl rfl rfl) ?_
          refine GT_alloc rfl rfl rfl rfl rfl zc_72 (fun _ => GR_nil) (fun b10 => ?_)
          refine GT_store (vs := [_, _, _, _, _]) (l' := [_, _, _, _, _]) rfl rfl rfl rfl rfl rfl rfl sz_72 rfl rfl (Nat.le_of_ble_eq_true rfl) rfl (GR_nil) ?_
          refine GT_st rfl rfl rfl rfl (V_assign rfl rfl) ?_
          refine GT_nil ?_
          refine GE_seq ?_
          refine GE_slots (L' := [(0, _), (1, _), (9, _), (10, _), (11, _)]) ⟨rfl, rfl, rfl, rfl, rfl, trivial⟩ ?_
          refine GE_plain (.st 0 (.st 1 (.st 2 (.st 3 (.ld 4 [] (.st 5 (.st 6 .nil))))))) rfl ?_
          refine GT_st rfl rfl rfl rfl (V_move rfl rfl) ?_
          refine GT_st rfl rfl rfl rfl (V_move rfl rfl) ?_
          first | refine GT_splitNot (d := 54) rfl (fun hfl => ?_) (fun hfl => ?_) | refine GT_split (d := 54) rfl (fun hfl => ?_) (fun hfl => ?_) | refine GT_splitNotB (d := 54) rfl (fun hfl => ?_) (fun hfl => ?_) | refine GT_splitB (d := 54) rfl (fun hfl => ?_) (fun hfl => ?_)
          · have he := optE_true hfl
            refine GT_st_g rfl rfl rfl rfl rfl rfl rfl (V_move rfl rfl) ?_
            refine GT_st_g rfl rfl rfl rfl rfl rfl rfl (V_loadN (vs := [_, _, _, _, _]) rfl rfl ag_72 sz_72 rfl (CellsAt.item rfl)) ?_
            refine GT_yield_g rfl rfl rfl rfl rfl rfl rfl rfl rfl rfl (YieldTo.chunk (hY _ _ _ (by rw [← he, edgesOut_succ hdl]; exact edgesOut_pre) hQ2 _)) (fun _ _ _ => GR_nil) (fun v H' hR => ?_)
            obtain ⟨J3, rfl, hQ3, rfl⟩ := hR; rw [← he, edgesOut_succ hdl] at hQ3
            first | refine GT_st_g rfl rfl rfl rfl rfl rfl rfl (V_not rfl rfl) ?_ | refine GT_st_g rfl rfl rfl rfl rfl rfl rfl (V_notB rfl rfl) ?_
            refine GT_st rfl rfl rfl rfl (V_pick_t rfl rfl rfl) ?_
            refine GT_nil ?_
            first | refine GE_condNot rfl (fun hv => ?_) (fun hv => ?_) | refine GE_cond rfl (fun hv => ?_) (fun hv => ?_) | refine GE_condNotB rfl (fun hv => ?_) (fun hv => ?_) | refine GE_condB rfl (fun hv => ?_) (fun hv => ?_)
            · cases hv
            · skip
              refine GE_skip ?_
              refine GE_inBlock ?_
              refine GE_slots (L' := [(0, _), (1, _), (9, _), (55, _), (56, _), (57, _), (58, _)]) ⟨rfl, rfl, rfl, rfl, rfl, rfl, rfl, trivial⟩ ?_
              refine GE_plain (.st 0 (.st 1 (.ld 2 [] .nil))) rfl ?_
              refine GT_st rfl rfl rfl rfl (V_move rfl rfl) ?_
              refine GT_st rfl rfl rfl rfl (V_sub rfl rfl rfl (wrap_i64 (by omega))) ?_
              refine GT_ldv rfl rfl rfl rfl rfl (V_assign rfl rfl) (GR_nil) ?_
              refine GT_nil ?_
              first
                | exact GE_to (ih2 (d + 1, J3) ⟨by dsimp only; omega, hQ3⟩ (by dsimp only; omega)) ⟨rfl, rfl, lookI rfl (by dsimp only; omega), trivial⟩ (HS.chunk (HS.cons rfl HS.last))
                | exact GE_to (ih2 (d + 1, J2) ⟨by dsimp only; omega, hQ3⟩ (by dsimp only; omega)) ⟨rfl, rfl, lookI rfl (by dsimp only; omega), trivial⟩ (HS.chunk (HS.cons rfl HS.last))
          · have hQ3 : Q (edgesOut b l (d + 1)) J2 := (by rw [← edgesOut_succ hdl, optE_false hfl, List.append_nil]; exact hQ2)
            refine GT_skip rfl rfl rfl rfl rfl (by decide) rfl rfl ?_
            refine GT_skip rfl rfl rfl rfl rfl (by decide) rfl rfl ?_
            refine GT_skip_ld rfl rfl rfl rfl rfl (by decide) rfl rfl rfl (GR_nil) ?_
            refine GT_skip rfl rfl rfl rfl rfl (by decide) rfl rfl ?_
            refine GT_st rfl rfl rfl rfl (V_pick_f rfl rfl rfl) ?_
            refine GT_nil ?_
            refine GE_cond_f rfl ?_
            refine GE_skip ?_
            refine GE_inBlock ?_
            refine GE_slots (L' := [(0, _), (1, _), (9, _), (55, _), (56, _), (57, _), (58, _)]) ⟨rfl, rfl, rfl, rfl, rfl, rfl, rfl, trivial⟩ ?_
            refine GE_plain (.st 0 (.st 1 (.ld 2 [] .nil))) rfl ?_
            refine GT_st rfl rfl rfl rfl (V_move rfl rfl) ?_
            refine GT_st rfl rfl rfl rfl (V_sub rfl rfl rfl (wrap_i64 (by omega))) ?_
            refine GT_ldv rfl rfl rfl rfl rfl (V_assign rfl rfl) (GR_nil) ?_
            refine GT_nil ?_
            first
              | exact GE_to (ih2 (d + 1, J3) ⟨by dsimp only; omega, hQ3⟩ (by dsimp only; omega)) ⟨rfl, rfl, lookI rfl (by dsimp only; omega), trivial⟩ (HS.chunk (HS.cons rfl HS.last))
              | exact GE_to (ih2 (d + 1, J2) ⟨by dsimp only; omega, hQ3⟩ (by dsimp only; omega)) ⟨rfl, rfl, lookI rfl (by dsimp only; omega), trivial⟩ (HS.chunk (HS.cons rfl HS.last))
        · rw [edgesOut_end (by omega)] at hQ2
          refine GE_exit rfl ?_
          refine GE_end Tryz.func56 rfl (fun w hw => ⟨J2, hQ2, hw⟩)
          skip
      · exact ⟨Nat.zero_le _, hQe⟩
  · exact ⟨Nat.zero_le _, hQ⟩
end Go.Proofs.YtogljfjbilndnaaGreatDoor.Lathe
/- Edges that are relaxed in rounds, in plain Lean: what the rounds keep. -/
namespace Go.Proofs.YtogljfjbilndnaaGreatDoor.Lathe
open Go.Sx

/-- no hole holds so many pigeons -/
theorem pigeon : ∀ (n : Nat) (f : Nat → Nat), (∀ i, i ≤ n → f i < n) → ∃ i j, i < j ∧ j ≤ n ∧ f i = f j
  | 0, f, h => absurd (h 0 (Nat.le_refl _)) (by omega)
  | n + 1, f, h => by
    by_cases he : ∃ i, i ≤ n ∧ f i = f (n + 1)
    · obtain ⟨i, hi, e⟩ := he
      exact ⟨i, n + 1, by omega, by omega, e⟩
    · have hne : ∀ i, i ≤ n → f i ≠ f (n + 1) := fun i hi e => he ⟨i, hi, e⟩
      obtain ⟨i, j, hij, hj, e⟩ := pigeon n (fun i => if f i = n then f (n + 1) else f i) (by
        intro i hi
        have h1 := h i (by omega)
        have h2 := h (n + 1) (by omega)
        have h3 := hne i hi
        split <;> omega)
      refine ⟨i, j, hij, by omega, ?_⟩
      have h1 := hne i (by omega)
      have h2 := hne j hj
      split at e <;> split at e <;> omega

section
variable {E : List Edge} {n : Nat}
def R (s : Srch) (i : Int) : Int := s.r.getD i.toNat default
def Lst (s : Srch) (i : Int) : Edge := s.last.getD i.toNat default
def In (n : Nat) (i : Int) : Prop := 0 ≤ i ∧ i < (n : Int)
/-- edges between n places -/
def Edges (n : Nat) (E : List Edge) : Prop := ∀ x ∈ E, In n x.frm ∧ In n x.to ∧ x.frm ≠ x.to

theorem relax_no {s : Srch} {x : Edge} (h : R s x.to ≤ R s x.frm + x.wt) : relax s x = s := by unfold relax; exact if_pos h
theorem relax_yes {s : Srch} {x : Edge} (h : ¬ R s x.to ≤ R s x.frm + x.wt) : relax s x = ⟨s.r.set x.to.toNat (R s x.frm + x.wt), s.last.set x.to.toNat x, x.to⟩ := by unfold relax; exact if_neg h
theorem relax_rlen (s : Srch) (x : Edge) : (relax s x).r.length = s.r.length := by unfold relax; split <;> simp
theorem relax_llen (s : Srch) (x : Edge) : (relax s x).last.length = s.last.length := by unfold relax; split <;> simp
theorem foldl_rlen : ∀ (E : List Edge) (s : Srch), (E.foldl relax s).r.length = s.r.length
  | [], _ => rfl
  | x :: E, s => by rw [List.foldl_cons, foldl_rlen E, relax_rlen]
theorem foldl_llen : ∀ (E : List Edge) (s : Srch), (E.foldl relax s).last.length = s.last.length
  | [], _ => rfl
  | x :: E, s => by rw [List.foldl_cons, foldl_llen E, relax_llen]
theorem R_set {s : Srch} {c v : Int} {y : Int} {L : List Edge} {i : Int} (hc : In n c) (hn : s.r.length = n) (hi : In n i) : R ⟨s.r.set c.toNat y, L, v⟩ i = if i = c then y else R s i := by
  unfold In at *
  simp only [R, List.getD, List.getElem?_set]
  by_cases h : i = c
  · subst h; rw [if_pos rfl, if_pos (by omega), if_pos rfl]; rfl
  · rw [if_neg (by omega), if_neg h]
theorem Lst_set {s : Srch} {c v : Int} {y : Edge} {L : List Int} {i : Int} (hc : In n c) (hn : s.last.length = n) (hi : In n i) : Lst ⟨L, s.last.set c.toNat y, v⟩ i = if i = c then y else Lst s i := by
  unfold In at *
  simp only [Lst, List.getD, List.getElem?_set]
  by_cases h : i = c
  · subst h; rw [if_pos rfl, if_pos (by omega), if_pos rfl]; rfl
  · rw [if_neg (by omega), if_neg h]

/-- What holds in round p, when the edges pre are done. rho: the round in which a place was last changed, and 1; tau: when. -/
structure Inv (n : Nat) (E : List Edge) (r0 : Int → Int) (e0 : Int → Edge) (s : Srch) (p t : Nat) (pre : List Edge) (rho tau : Int → Nat) : Prop where
  rl : s.r.length = n
  ll : s.last.length = n
  zero : ∀ i, In n i → rho i = 0 → Lst s i = e0 i ∧ R s i = r0 i
  anc : ∀ i, In n i → 0 < rho i → Lst s i ∈ E ∧ (Lst s i).to = i ∧ R s (Lst s i).frm + (Lst s i).wt ≤ R s i ∧ (R s i = R s (Lst s i).frm + (Lst s i).wt → tau (Lst s i).frm < tau i) ∧ rho i ≤ rho (Lst s i).frm + 1
  top : ∀ i, In n i → rho i ≤ p + 1 ∧ tau i ≤ t
  old : ∀ x ∈ E, R s x.to ≤ R s x.frm + x.wt ∨ p ≤ rho x.frm
  new : ∀ x ∈ pre, R s x.to ≤ R s x.frm + x.wt ∨ p + 1 ≤ rho x.frm
  ch : (s.ch = -1 ∧ ∀ i, In n i → rho i ≤ p) ∨ (In n s.ch ∧ rho s.ch = p + 1)

theorem Inv.step {r0 : Int → Int} {e0 : Int → Edge} {s : Srch} {p t : Nat} {pre : List Edge} {rho tau : Int → Nat} (h : Inv n E r0 e0 s p t pre rho tau) (hE : Edges n E) (hpre : ∀ y ∈ pre, y ∈ E) {x : Edge} (hx : x ∈ E) : ∃ rho tau, Inv n E r0 e0 (relax s x) p (t + 1) (pre ++ [x]) rho tau := by
  obtain ⟨hf, ht, hne⟩ := hE x hx
  by_cases hr : R s x.to ≤ R s x.frm + x.wt
  · rw [relax_no hr]
    refine ⟨rho, tau, h.rl, h.ll, h.zero, h.anc, fun i hi => ?_, h.old, fun y hy => ?_, h.ch⟩
    · have := h.top i hi; omega
    · rw [List.mem_append, List.mem_singleton] at hy
      rcases hy with hy | rfl
      · exact h.new y hy
      · exact .inl hr
  · rw [relax_yes hr]
    have hR := fun (i : Int) (hi : In n i) => R_set (s := s) (v := x.to) (y := R s x.frm + x.wt) (L := s.last.set x.to.toNat x) ht h.rl hi
    have hL := fun (i : Int) (hi : In n i) => Lst_set (s := s) (v := x.to) (y := x) (L := s.r.set x.to.toNat (R s x.frm + x.wt)) ht h.ll hi
    have hpx : p ≤ rho x.frm := (h.old x hx).resolve_left hr
    have hle : ∀ i, In n i → R ⟨s.r.set x.to.toNat (R s x.frm + x.wt), s.last.set x.to.toNat x, x.to⟩ i ≤ R s i := by
      intro i hi; rw [hR i hi]; split
      · rename_i e; subst e; omega
      · omega
    refine ⟨fun i => if i = x.to then p + 1 else rho i, fun i => if i = x.to then t + 1 else tau i, by simp [h.rl], by simp [h.ll], fun i hi h0 => ?_, fun i hi h0 => ?_, fun i hi => ?_, fun y hy => ?_, fun y hy => ?_, .inr ⟨ht, if_pos rfl⟩⟩
    · by_cases e : i = x.to
      · simp [e] at h0
      · simp only [e, if_false] at h0
        rw [hL i hi, hR i hi, if_neg e, if_neg e]
        exact h.zero i hi h0
    · by_cases e : i = x.to
      · subst e
        rw [hL _ hi, if_pos rfl, hR _ hi, if_pos rfl, hR _ hf, if_neg hne]
        simp only [if_true, hne, if_false]
        have := (h.top x.frm hf).2
        exact ⟨hx, trivial, Int.le_refl _, fun _ => by omega, by omega⟩
      · simp only [e, if_false] at h0 ⊢
        rw [hL i hi, if_neg e, hR i hi, if_neg e]
        obtain ⟨h1, h2, h3, h4, h5⟩ := h.anc i hi h0
        obtain ⟨g1, g2, g3⟩ := hE _ h1
        refine ⟨h1, h2, ?_, fun he => ?_, ?_⟩
        · have := hle _ g1; omega
        · rw [hR _ g1] at he
          by_cases e2 : (Lst s i).frm = x.to
          · rw [if_pos e2] at he; rw [e2] at h3; omega
          · rw [if_neg e2] at he ⊢; exact h4 he
        · by_cases e2 : (Lst s i).frm = x.to
          · rw [if_pos e2]; have := (h.top i hi).1; omega
          · rw [if_neg e2]; exact h5
    · by_cases e : i = x.to
      · simp [e]
      · simp only [e, if_false]; have := h.top i hi; omega
    · obtain ⟨g1, g2, g3⟩ := hE _ hy
      by_cases e : y.frm = x.to
      · right; simp [e]
      · simp only [e, if_false]
        rw [hR _ g1, if_neg e]
        have := hle _ g2
        rcases h.old y hy with h1 | h1
        · left; omega
        · exact .inr h1
    · rw [List.mem_append, List.mem_singleton] at hy
      rcases hy with hy | rfl
      · obtain ⟨g1, g2, g3⟩ := hE _ (hpre y hy)
        by_cases e : y.frm = x.to
        · right; simp [e]
        · simp only [e, if_false]
          rw [hR _ g1, if_neg e]
          have := hle _ g2
          rcases h.new y hy with h1 | h1
          · left; omega
          · exact .inr h1
      · left
        rw [hR _ ht, if_pos rfl, hR _ hf, if_neg hne]; omega

theorem Inv.steps {r0 : Int → Int} {e0 : Int → Edge} (hE : Edges n E) : ∀ (post : List Edge) {s : Srch} {p t : Nat} {pre : List Edge} {rho tau : Int → Nat}, Inv n E r0 e0 s p t pre rho tau → pre ++ post = E → ∃ rho tau, Inv n E r0 e0 (post.foldl relax s) p (t + post.length) E rho tau
  | [], s, p, t, pre, rho, tau, h, e => by rw [List.append_nil] at e; subst e; exact ⟨rho, tau, h⟩
  | x :: post, s, p, t, pre, rho, tau, h, e => by
    have hx : x ∈ E := by rw [← e]; simp
    obtain ⟨rho1, tau1, h1⟩ := h.step hE (fun y hy => by rw [← e]; exact List.mem_append_left _ hy) hx
    obtain ⟨rho2, tau2, h2⟩ := Inv.steps hE post h1 (by simpa using e)
    exact ⟨rho2, tau2, by rw [List.foldl_cons, List.length_cons, show t + (post.length + 1) = t + 1 + post.length by omega]; exact h2⟩
theorem Inv.round {r0 : Int → Int} {e0 : Int → Edge} {s : Srch} {p t : Nat} {rho tau : Int → Nat} (hE : Edges n E) (h : Inv n E r0 e0 s p t [] rho tau) : ∃ rho tau, Inv n E r0 e0 (E.foldl relax s) p (t + E.length) E rho tau := Inv.steps hE E h rfl
theorem Inv.next {r0 : Int → Int} {e0 : Int → Edge} {s : Srch} {p t : Nat} {rho tau : Int → Nat} (h : Inv n E r0 e0 s p t E rho tau) : Inv n E r0 e0 ⟨s.r, s.last, -1⟩ (p + 1) t [] rho tau :=
  ⟨h.rl, h.ll, h.zero, h.anc, fun i hi => by have := h.top i hi; omega, h.new, (fun y hy => by cases hy), .inl ⟨rfl, fun i hi => (h.top i hi).1⟩⟩

/-- nothing changed in a round: all edges hold -/
theorem Inv.settled {r0 : Int → Int} {e0 : Int → Edge} {s : Srch} {p t : Nat} {rho tau : Int → Nat} (hE : Edges n E) (h : Inv n E r0 e0 s p t E rho tau) (hc : s.ch = -1) : ∀ x ∈ E, R s x.to ≤ R s x.frm + x.wt := by
  intro x hx
  rcases h.ch with ⟨_, h1⟩ | ⟨h1, _⟩
  · rcases h.new x hx with h2 | h2
    · exact h2
    · have := h1 _ (hE x hx).1; omega
  · rw [hc] at h1; unfold In at h1; omega

/-- the sum of the weights of the first m steps back -/
def wsum (last : List Edge) (v : Int) : Nat → Int
  | 0 => 0
  | m + 1 => wsum last v m + (last.getD (back last m v).toNat default).wt
theorem wsum_shift (last : List Edge) (v : Int) (hb : ∀ (k : Nat) (v : Int), back last (k + 1) v = back last k (par last v)) : ∀ m, wsum last v (m + 1) = (last.getD v.toNat default).wt + wsum last (par last v) m
  | 0 => by simp [wsum, back]
  | m + 1 => by
    have ih := wsum_shift last v hb m
    have e : wsum last v (m + 1 + 1) = wsum last v (m + 1) + (last.getD (back last (m + 1) v).toNat default).wt := rfl
    have e2 : wsum last (par last v) (m + 1) = wsum last (par last v) m + (last.getD (back last m (par last v)).toNat default).wt := rfl
    rw [e, ih, hb, e2]; omega
/-- the way back from a place ends at the rim -/
theorem Inv.way {r0 : Int → Int} {e0 : Int → Edge} {s : Srch} {p t : Nat} {rho tau : Int → Nat} (hE : Edges n E) (h : Inv n E r0 e0 s p t E rho tau) (hs : ∀ x ∈ E, R s x.to ≤ R s x.frm + x.wt) (he0 : ∀ i, (e0 i).frm = -1) (he1 : ∀ i, (e0 i).wt = r0 i) :
    ∀ (T : Nat) (v : Int), In n v → tau v ≤ T → ∃ m, m ≤ T + 1 ∧ 0 < m ∧ back s.last m v = -1 ∧ (∀ i, i < m → In n (back s.last i v)) ∧ (∀ i, i + 1 < m → Lst s (back s.last i v) ∈ E) ∧ Lst s (back s.last (m - 1) v) = e0 (back s.last (m - 1) v) ∧ wsum s.last v m ≤ R s v ∧ (∀ i, i + 1 < m → (Lst s (back s.last i v)).to = back s.last i v) := by
  have hb : ∀ (k : Nat) (v : Int), back s.last (k + 1) v = back s.last k (par s.last v) := by
    intro k v
    induction k with
    | zero => rfl
    | succ k ih => rw [back, ih, back]
  intro T
  induction T using Nat.strongRecOn with
  | _ T ih =>
    intro v hv hT
    by_cases h0 : rho v = 0
    · have := (h.zero v hv h0).1
      have hfr : par s.last v = -1 := by unfold par; show (Lst s v).frm = -1; rw [this, he0]
      refine ⟨1, by omega, by omega, hfr, fun i hi => ?_, fun i hi => by omega, this, ?_, fun i hi => by omega⟩
      · obtain rfl : i = 0 := by omega
        exact hv
      · have e : wsum s.last v 1 = 0 + (Lst s v).wt := rfl
        rw [e, this, he1, (h.zero v hv h0).2]; omega
    · obtain ⟨h1, h2, h3, h4, h5⟩ := h.anc v hv (by omega)
      have hle := hs _ h1
      rw [h2] at hle
      have htau := h4 (by omega)
      have hin := (hE _ h1).1
      have ep : par s.last v = (Lst s v).frm := rfl
      obtain ⟨m, hm, hm0, g1, g2, g3, g4, g5, g6⟩ := ih (tau (Lst s v).frm) (by omega) (Lst s v).frm hin (Nat.le_refl _)
      refine ⟨m + 1, by omega, by omega, by rw [hb, ep]; exact g1, fun i hi => ?_, fun i hi => ?_, ?_, ?_, fun i hi => ?_⟩
      · cases i with
        | zero => exact hv
        | succ i => rw [hb, ep]; exact g2 i (by omega)
      · cases i with
        | zero => exact h1
        | succ i => rw [hb, ep]; exact g3 i (by omega)
      · obtain ⟨q, rfl⟩ : ∃ q, m = q + 1 := ⟨m - 1, by omega⟩
        simp only [Nat.add_sub_cancel] at g4 ⊢
        rw [hb, ep]; exact g4
      · rw [wsum_shift _ _ hb, ep]
        have e : (s.last.getD v.toNat default) = Lst s v := rfl
        rw [e]; omega
      · cases i with
        | zero => exact h2
        | succ i => rw [hb, ep]; exact g6 i (by omega)

/-- late changes have long ways back -/
theorem Inv.late {r0 : Int → Int} {e0 : Int → Edge} {s : Srch} {p t : Nat} {rho tau : Int → Nat} (hE : Edges n E) (h : Inv n E r0 e0 s p t E rho tau) {v : Int} (hv : In n v) (hr : rho v = p + 1) : ∀ i, i ≤ p + 1 → In n (back s.last i v) ∧ p + 1 ≤ rho (back s.last i v) + i
  | 0, _ => ⟨hv, by show p + 1 ≤ rho v + 0; omega⟩
  | i + 1, hi => by
    obtain ⟨h1, h2⟩ := Inv.late hE h hv hr i (by omega)
    obtain ⟨g1, g2, g3, g4, g5⟩ := h.anc _ h1 (by omega)
    have ep : back s.last (i + 1) v = (Lst s (back s.last i v)).frm := rfl
    rw [ep]
    exact ⟨(hE _ g1).1, by omega⟩

theorem back_add (last : List Edge) (v : Int) (i : Nat) : ∀ k, back last (i + k) v = back last k (back last i v)
  | 0 => rfl
  | k + 1 => congrArg (par last) (back_add last v i k)

/-- a change in a round after so many rounds: there is a circle -/
theorem Inv.circle {r0 : Int → Int} {e0 : Int → Edge} {s : Srch} {p t : Nat} {rho tau : Int → Nat} (hE : Edges n E) (h : Inv n E r0 e0 s p t E rho tau) (hp : n ≤ p) (hc : s.ch ≠ -1) :
    (∀ i, In n (back s.last i s.ch)) ∧ (∀ i, Lst s (back s.last i s.ch) ∈ E ∧ R s (back s.last (i + 1) s.ch) + (Lst s (back s.last i s.ch)).wt ≤ R s (back s.last i s.ch) ∧ (R s (back s.last i s.ch) = R s (back s.last (i + 1) s.ch) + (Lst s (back s.last i s.ch)).wt → tau (back s.last (i + 1) s.ch) < tau (back s.last i s.ch))) ∧
    ∃ m, 0 < m ∧ m ≤ n ∧ back s.last m (back s.last n s.ch) = back s.last n s.ch := by
  obtain ⟨hv, hr⟩ : In n s.ch ∧ rho s.ch = p + 1 := by
    rcases h.ch with ⟨h1, _⟩ | h1
    · exact absurd h1 hc
    · exact h1
  generalize s.ch = v at *
  have hl := h.late hE hv hr
  obtain ⟨i, j, hij, hj, e⟩ := pigeon n (fun i => (back s.last i v).toNat) (by
    intro i hi
    have := (hl i (by omega)).1
    unfold In at this
    omega)
  have e' : back s.last i v = back s.last j v := by
    have h1 := (hl i (by omega)).1
    have h2 := (hl j (by omega)).1
    unfold In at h1 h2
    omega
  have hper : ∀ k, i ≤ k → back s.last (k + (j - i)) v = back s.last k v := by
    intro k hk
    obtain ⟨q, rfl⟩ : ∃ q, k = i + q := ⟨k - i, by omega⟩
    rw [show i + q + (j - i) = j + q by omega, back_add, ← e', ← back_add]
  have hred : ∀ k, ∃ q, q ≤ n ∧ back s.last k v = back s.last q v := by
    intro k
    induction k using Nat.strongRecOn with
    | _ k ih =>
      by_cases hk : k ≤ n
      · exact ⟨k, hk, rfl⟩
      · obtain ⟨q, hq, hq2⟩ := ih (k - (j - i)) (by omega)
        refine ⟨q, hq, ?_⟩
        rw [← hq2, ← hper (k - (j - i)) (by omega)]
        congr 1; omega
  have hpos : ∀ k, In n (back s.last k v) ∧ 0 < rho (back s.last k v) := by
    intro k
    obtain ⟨q, hq, e2⟩ := hred k
    rw [e2]
    have := hl q (by omega)
    exact ⟨this.1, by omega⟩
  refine ⟨fun k => (hpos k).1, fun k => ?_, j - i, by omega, by omega, ?_⟩
  · obtain ⟨g1, g2, g3, g4, g5⟩ := h.anc _ (hpos k).1 (hpos k).2
    exact ⟨g1, g3, g4⟩
  · rw [← back_add]; exact hper n (by omega)

/-- the weights of a circle are less than 0 together -/
theorem Inv.below {s : Srch} {tau : Int → Nat} {v : Int} (h : ∀ i, R s (back s.last (i + 1) v) + (Lst s (back s.last i v)).wt ≤ R s (back s.last i v) ∧ (R s (back s.last i v) = R s (back s.last (i + 1) v) + (Lst s (back s.last i v)).wt → tau (back s.last (i + 1) v) < tau (back s.last i v))) :
    ∀ m, wsum s.last v m ≤ R s v - R s (back s.last m v) ∧ (wsum s.last v m = R s v - R s (back s.last m v) → tau (back s.last m v) + m ≤ tau v)
  | 0 => ⟨by simp [wsum, back], fun _ => by simp [back]⟩
  | m + 1 => by
    obtain ⟨h1, h2⟩ := Inv.below h m
    obtain ⟨g1, g2⟩ := h m
    have e : wsum s.last v (m + 1) = wsum s.last v m + (Lst s (back s.last m v)).wt := rfl
    rw [e]
    refine ⟨by omega, fun he => ?_⟩
    have := g2 (by omega)
    have := h2 (by omega)
    omega
theorem circle_below {s : Srch} {tau : Int → Nat} {v : Int} (h : ∀ i, R s (back s.last (i + 1) v) + (Lst s (back s.last i v)).wt ≤ R s (back s.last i v) ∧ (R s (back s.last i v) = R s (back s.last (i + 1) v) + (Lst s (back s.last i v)).wt → tau (back s.last (i + 1) v) < tau (back s.last i v)))
    {m : Nat} (hm : 0 < m) (hb : back s.last m v = v) : wsum s.last v m < 0 := by
  obtain ⟨h1, h2⟩ := Inv.below h m
  rw [hb] at h1 h2
  rcases Int.lt_or_eq_of_le h1 with h3 | h3
  · omega
  · have := h2 h3; omega

/-- what keeps the edges, and is nowhere above, stays nowhere above -/
theorem relax_above {r' : Int → Int} {s : Srch} {x : Edge} (hn : s.r.length = n) (hx : In n x.frm ∧ In n x.to ∧ x.frm ≠ x.to) (hr : r' x.to ≤ r' x.frm + x.wt) (h : ∀ i, In n i → r' i ≤ R s i) : ∀ i, In n i → r' i ≤ R (relax s x) i := by
  intro i hi
  by_cases hc : R s x.to ≤ R s x.frm + x.wt
  · rw [relax_no hc]; exact h i hi
  · rw [relax_yes hc, R_set hx.2.1 hn hi]
    split
    · rename_i e; subst e; have := h _ hx.1; omega
    · exact h i hi
theorem foldl_above {r' : Int → Int} : ∀ (E : List Edge) (s : Srch), s.r.length = n → Edges n E → (∀ x ∈ E, r' x.to ≤ r' x.frm + x.wt) → (∀ i, In n i → r' i ≤ R s i) → ∀ i, In n i → r' i ≤ R (E.foldl relax s) i
  | [], s, hn, hE, hr, h => h
  | x :: E, s, hn, hE, hr, h => by
    rw [List.foldl_cons]
    exact foldl_above E _ (by rw [relax_rlen, hn]) (fun y hy => hE y (List.mem_cons_of_mem _ hy)) (fun y hy => hr y (List.mem_cons_of_mem _ hy)) (relax_above hn (hE x (List.mem_cons_self ..)) (hr x (List.mem_cons_self ..)) h)
/-- what is relaxed falls -/
theorem relax_below {s : Srch} {x : Edge} (hn : s.r.length = n) (hx : In n x.to) : ∀ i, In n i → R (relax s x) i ≤ R s i := by
  intro i hi
  by_cases hc : R s x.to ≤ R s x.frm + x.wt
  · rw [relax_no hc]; exact Int.le_refl _
  · rw [relax_yes hc, R_set hx hn hi]
    split
    · rename_i e; subst e; omega
    · exact Int.le_refl _
theorem foldl_below : ∀ (E : List Edge) (s : Srch), s.r.length = n → Edges n E → ∀ i, In n i → R (E.foldl relax s) i ≤ R s i
  | [], s, hn, hE => fun i _ => Int.le_refl _
  | x :: E, s, hn, hE => fun i hi => by
    rw [List.foldl_cons]
    exact Int.le_trans (foldl_below E _ (by rw [relax_rlen, hn]) (fun y hy => hE y (List.mem_cons_of_mem _ hy)) i hi) (relax_below hn (hE x (List.mem_cons_self ..)).2.1 i hi)
/-- no circle is below 0, where something keeps its edges -/
theorem kept_sum {r' : Int → Int} {s : Srch} {v : Int} (hr : ∀ x ∈ E, r' x.to ≤ r' x.frm + x.wt) : ∀ m, (∀ i, i < m → Lst s (back s.last i v) ∈ E ∧ (Lst s (back s.last i v)).to = back s.last i v) → r' v ≤ r' (back s.last m v) + wsum s.last v m
  | 0, _ => by simp [back, wsum]
  | m + 1, h => by
    have h1 := kept_sum hr m (fun i hi => h i (by omega))
    obtain ⟨h2, h3⟩ := h m (by omega)
    have := hr _ h2
    rw [h3] at this
    have e : wsum s.last v (m + 1) = wsum s.last v m + (Lst s (back s.last m v)).wt := rfl
    have e2 : back s.last (m + 1) v = (Lst s (back s.last m v)).frm := rfl
    rw [e, e2]
    omega
end
end Go.Proofs.YtogljfjbilndnaaGreatDoor.Lathe
/- The lathe's edges and rounds: what is known of them. -/
namespace Go.Proofs.YtogljfjbilndnaaGreatDoor.Lathe
open Go.Sx

def PtB (l : List Pt) : Prop := ∀ q, q < l.length → (-4194304 ≤ (l.getD q default).inn ∧ (l.getD q default).inn ≤ 4194304) ∧ (-4194304 ≤ (l.getD q default).out ∧ (l.getD q default).out ≤ 4194304)
theorem ptB_of {l : List Pt} (hpt : l.all ptOk = true) : PtB l := by
  intro q hq
  have := List.all_eq_true.1 hpt _ (List.getElem_mem hq)
  simpa [ptOk, betw_iff, List.getD, hq] using this

theorem edgeOf_one {b : Blank} {l : List Pt} {i : Int} (hi : In l.length i) : edgeOf b l 1 i = (⟨1, i, -1, i, b.rim - (l.getD i.toNat default).out⟩, true) := by
  unfold In at hi; unfold edgeOf; rw [if_neg (by omega), if_pos rfl]
theorem edgeOf_two {b : Blank} {l : List Pt} {i : Int} (hi : In l.length i) : edgeOf b l 2 i = (⟨2, i, i, -1, (l.getD i.toNat default).inn - b.core⟩, true) := by
  unfold In at hi; unfold edgeOf; rw [if_neg (by omega), if_neg (by omega), if_pos rfl]
theorem edgeOf_three {b : Blank} {l : List Pt} {i : Int} (hi : In l.length i) : edgeOf b l 3 i = (⟨3, i, i - 1, i, 0 - b.slow⟩, decide (0 < i)) := by
  unfold In at hi; unfold edgeOf; rw [if_neg (by omega), if_neg (by omega), if_neg (by omega), if_pos rfl]
theorem edgeOf_four {b : Blank} {l : List Pt} {i : Int} (hi : In l.length i) : edgeOf b l 4 i = (⟨4, i, i, i - 1, b.fast⟩, decide (0 < i)) := by
  unfold In at hi; unfold edgeOf; rw [if_neg (by omega), if_neg (by omega), if_neg (by omega), if_neg (by omega), if_pos rfl]
theorem edgeOf_five {b : Blank} {l : List Pt} {i : Int} (hi : In l.length i) : edgeOf b l 5 i = if i < b.per then (⟨5, i, i, i, 0⟩, false) else (⟨5, i, i - b.per, i, (l.getD (i - b.per).toNat default).inn - (l.getD i.toNat default).out - b.land⟩, true) := by
  unfold In at hi; unfold edgeOf; rw [if_neg (by omega), if_neg (by omega), if_neg (by omega), if_neg (by omega), if_neg (by omega), if_pos rfl]

/-- x is what rule 3, 4 or 5 says at sample i -/
def IsEdge (b : Blank) (l : List Pt) (x : Edge) : Prop := ∃ rule i, (rule = 3 ∨ rule = 4 ∨ rule = 5) ∧ In l.length i ∧ (edgeOf b l rule i).2 = true ∧ x = (edgeOf b l rule i).1
theorem mem_optE {x : Edge} {e : Edge × Bool} : x ∈ optE e ↔ e.2 = true ∧ x = e.1 := by unfold optE; split <;> simp_all
theorem mem_edgeList {b : Blank} {l : List Pt} {x : Edge} : x ∈ edgeList b l ↔ IsEdge b l x := by
  unfold edgeList IsEdge
  simp only [List.mem_append, List.mem_flatMap, List.mem_range, List.mem_reverse, inward, mem_optE]
  constructor
  · rintro (⟨i, hi, h | h⟩ | ⟨i, hi, h⟩)
    · exact ⟨3, i, .inl rfl, ⟨by omega, by omega⟩, h⟩
    · exact ⟨5, i, .inr (.inr rfl), ⟨by omega, by omega⟩, h⟩
    · exact ⟨4, (i : Int) + 1, .inr (.inl rfl), ⟨by omega, by omega⟩, h⟩
  · rintro ⟨rule, i, hr, hi, h1, h2⟩
    have hi' := hi
    unfold In at hi'
    rcases hr with rfl | rfl | rfl
    · exact .inl ⟨i.toNat, by omega, .inl ⟨by rw [Int.toNat_of_nonneg hi'.1]; exact h1, by rw [Int.toNat_of_nonneg hi'.1]; exact h2⟩⟩
    · have h3 : 0 < i := by rw [edgeOf_four hi] at h1; simpa using h1
      have e : (((i.toNat - 1 : Nat) : Int) + 1) = i := by omega
      exact .inr ⟨i.toNat - 1, by omega, by rw [e]; exact ⟨h1, h2⟩⟩
    · exact .inl ⟨i.toNat, by omega, .inr ⟨by rw [Int.toNat_of_nonneg hi'.1]; exact h1, by rw [Int.toNat_of_nonneg hi'.1]; exact h2⟩⟩

theorem isEdge_facts {b : Blank} {l : List Pt} {x : Edge} (hb : b.ok = true) (hp : PtB l) (h : IsEdge b l x) : In l.length x.frm ∧ In l.length x.to ∧ x.frm ≠ x.to ∧ -16777216 ≤ x.wt ∧ x.wt ≤ 16777216 := by
  rw [Blank.ok_iff] at hb
  obtain ⟨rule, i, hr, hi, h1, rfl⟩ := h
  have hi' := hi
  unfold In at hi' ⊢
  rcases hr with rfl | rfl | rfl
  · rw [edgeOf_three hi] at h1 ⊢; simp only [decide_eq_true_eq] at h1 ⊢; omega
  · rw [edgeOf_four hi] at h1 ⊢; simp only [decide_eq_true_eq] at h1 ⊢; omega
  · rw [edgeOf_five hi] at h1 ⊢
    split at h1
    · cases h1
    · rename_i hc
      rw [if_neg hc]
      have g1 := hp (i - b.per).toNat (by omega)
      have g2 := hp i.toNat (by omega)
      dsimp only; omega
theorem edges_edgeList {b : Blank} {l : List Pt} (hb : b.ok = true) (hp : PtB l) : Edges l.length (edgeList b l) := fun x hx => by
  have := isEdge_facts hb hp (mem_edgeList.1 hx)
  exact ⟨this.1, this.2.1, this.2.2.1⟩
theorem flatMap_len {f : Nat → List Edge} {c : Nat} (h : ∀ i, (f i).length ≤ c) : ∀ l : List Nat, (l.flatMap f).length ≤ c * l.length
  | [] => by simp
  | i :: l => by
    have := flatMap_len h l
    have := h i
    rw [List.flatMap_cons, List.length_append, List.length_cons, Nat.mul_succ]; omega
theorem optE_len (e : Edge × Bool) : (optE e).length ≤ 1 := by unfold optE; split <;> simp
theorem edgeList_len (b : Blank) (l : List Pt) : (edgeList b l).length ≤ 3 * l.length := by
  unfold edgeList
  have h1 := flatMap_len (f := inward b l) (c := 2) (fun i => by unfold inward; rw [List.length_append]; have := optE_len (edgeOf b l 3 i); have := optE_len (edgeOf b l 5 i); omega) (List.range l.length)
  have h2 := flatMap_len (f := fun i : Nat => optE (edgeOf b l 4 ((i : Int) + 1))) (c := 1) (fun i => optE_len _) (List.range (l.length - 1)).reverse
  simp only [List.length_range, List.length_reverse] at h1 h2
  rw [List.length_append]; omega

/-! bounds -/
theorem relax_bd {s : Srch} {x : Edge} {n : Nat} {lo : Int} (hn : s.r.length = n) (h : Bd s.r n lo) (hf : In n x.frm) (ht : In n x.to) (hw : -16777216 ≤ x.wt) : Bd (relax s x).r n (lo - 16777216) := by
  unfold In at hf ht
  by_cases hc : R s x.to ≤ R s x.frm + x.wt
  · rw [relax_no hc]
    intro q hq; have := h q hq; omega
  · rw [relax_yes hc]
    have h1 := h x.to.toNat (by omega)
    have h2 := h x.frm.toNat (by omega)
    exact Bd.set h (by omega) (by unfold R at hc ⊢; omega)
theorem foldl_bd {n : Nat} : ∀ (E : List Edge) (s : Srch) (lo : Int), s.r.length = n → Bd s.r n lo → (∀ x ∈ E, In n x.frm ∧ In n x.to ∧ -16777216 ≤ x.wt) → Bd (E.foldl relax s).r n (lo - 16777216 * E.length)
  | [], s, lo, hn, h, _ => by simpa using h
  | x :: E, s, lo, hn, h, hE => by
    have hx := hE x (List.mem_cons_self ..)
    have := foldl_bd E (relax s x) _ (by rw [relax_rlen, hn]) (relax_bd hn h hx.1 hx.2.1 hx.2.2) (fun y hy => hE y (List.mem_cons_of_mem _ hy))
    rw [List.foldl_cons, List.length_cons]
    intro q hq
    have := this q hq
    push_cast
    omega
theorem round_bd {b : Blank} {l : List Pt} {pre : List Edge} {r : List Int} {last : List Edge} {lo : Int} (hb : b.ok = true) (hp : PtB l) (hr : r.length = l.length) (h : Bd r l.length lo) (hpre : pre <+: edgeList b l) : Bd (pre.foldl relax ⟨r, last, -1⟩).r l.length (lo - 16777216 * (3 * l.length)) := by
  have h1 := foldl_bd (n := l.length) pre ⟨r, last, -1⟩ lo hr h (fun x hx => by
    have := isEdge_facts hb hp (mem_edgeList.1 (hpre.subset hx))
    exact ⟨this.1, this.2.1, this.2.2.2.1⟩)
  have h2 := hpre.length_le
  have h3 := edgeList_len b l
  intro q hq
  have := h1 q hq
  omega

/-! the rounds -/
def r0 (b : Blank) (l : List Pt) (i : Int) : Int := b.rim - (l.getD i.toNat default).out
def e0 (b : Blank) (l : List Pt) (i : Int) : Edge := ⟨1, i, -1, i, r0 b l i⟩
theorem start_R {b : Blank} {l : List Pt} {i : Int} {L : List Edge} {c : Int} (hi : In l.length i) : R ⟨start b l, L, c⟩ i = r0 b l i := by
  unfold In at hi
  have : i.toNat < l.length := by omega
  simp [R, r0, start, List.getD, this]
theorem rim_Lst {b : Blank} {l : List Pt} {i : Int} {L : List Int} {c : Int} (hi : In l.length i) : Lst ⟨L, rimEdges b l, c⟩ i = e0 b l i := by
  have hi' := hi
  unfold In at hi'
  have h : i.toNat < l.length := by omega
  have e : ((i.toNat : Nat) : Int) = i := by omega
  simp only [Lst, rimEdges, List.getD, List.getElem?_map, List.getElem?_range h, Option.map_some, Option.getD_some]
  rw [e, edgeOf_one hi]; rfl
theorem rimEdges_length (b : Blank) (l : List Pt) : (rimEdges b l).length = l.length := by simp [rimEdges]
theorem start_inv (b : Blank) (l : List Pt) (E : List Edge) : Inv l.length E (r0 b l) (e0 b l) ⟨start b l, rimEdges b l, -1⟩ 0 0 [] (fun _ => 0) (fun _ => 0) :=
  ⟨start_length b l, rimEdges_length b l, fun i hi _ => ⟨rim_Lst hi, start_R hi⟩, fun i hi h => by omega, fun i hi => ⟨by omega, by omega⟩, fun x hx => .inr (Nat.zero_le _), fun x hx => (by cases hx), .inl ⟨rfl, fun i hi => Nat.zero_le _⟩⟩

theorem rounds_inv {b : Blank} {l : List Pt} (hE : Edges l.length (edgeList b l)) : ∀ (f : Nat) (p t : Nat) (r : List Int) (last : List Edge) (rho tau : Int → Nat), Inv l.length (edgeList b l) (r0 b l) (e0 b l) ⟨r, last, -1⟩ p t [] rho tau → 0 < f →
    ∃ p' t' rho tau, Inv l.length (edgeList b l) (r0 b l) (e0 b l) (rounds b l f r last) p' t' (edgeList b l) rho tau ∧ ((rounds b l f r last).ch ≠ -1 → p' + 1 = p + f) ∧ t' ≤ t + f * (edgeList b l).length
  | 0, _, _, _, _, _, _, _, h0 => by omega
  | f + 1, p, t, r, last, rho, tau, h, _ => by
    obtain ⟨rho1, tau1, h1⟩ := h.round hE
    have e : (edgeList b l).foldl relax ⟨r, last, -1⟩ = round b l r last := rfl
    rw [e] at h1
    have e2 : rounds b l (f + 1) r last = if (round b l r last).ch = -1 then round b l r last else if f = 0 then round b l r last else rounds b l f (round b l r last).r (round b l r last).last := rfl
    rw [e2, Nat.succ_mul]
    by_cases hc : (round b l r last).ch = -1
    · rw [if_pos hc]; exact ⟨p, _, rho1, tau1, h1, fun h2 => absurd hc h2, by omega⟩
    · rw [if_neg hc]
      by_cases hf : f = 0
      · rw [if_pos hf]; exact ⟨p, _, rho1, tau1, h1, fun _ => by omega, by omega⟩
      · rw [if_neg hf]
        obtain ⟨p', t', rho2, tau2, h2, h3, h4⟩ := rounds_inv hE f (p + 1) _ _ _ _ _ h1.next (by omega)
        exact ⟨p', t', rho2, tau2, h2, fun h5 => by have := h3 h5; omega, by omega⟩
/-- what is known in the end -/
theorem settled_inv {b : Blank} {l : List Pt} (hb : b.ok = true) (hp : PtB l) : ∃ p t rho tau, Inv l.length (edgeList b l) (r0 b l) (e0 b l) (settled b l) p t (edgeList b l) rho tau ∧ ((settled b l).ch ≠ -1 → l.length ≤ p) ∧ t ≤ (l.length + 2) * (3 * l.length) := by
  obtain ⟨p, t, rho, tau, h1, h2, h3⟩ := rounds_inv (edges_edgeList hb hp) (l.length + 2) 0 0 (start b l) (rimEdges b l) _ _ (start_inv b l _) (by omega)
  refine ⟨p, t, rho, tau, h1, fun h => by have := h2 h; omega, ?_⟩
  have := Nat.mul_le_mul_left (l.length + 2) (edgeList_len b l)
  omega
theorem settled_circle {b : Blank} {l : List Pt} (hb : b.ok = true) (hp : PtB l) (hc : (settled b l).ch ≠ -1) :
    (∀ i, In l.length (back (settled b l).last i (settled b l).ch)) ∧ ∃ m, 0 < m ∧ m ≤ l.length ∧ back (settled b l).last m (back (settled b l).last l.length (settled b l).ch) = back (settled b l).last l.length (settled b l).ch := by
  obtain ⟨p, t, rho, tau, h1, h2, h3⟩ := settled_inv hb hp
  obtain ⟨g1, _, g3⟩ := h1.circle (edges_edgeList hb hp) (h2 hc) hc
  exact ⟨g1, g3⟩
/-- m steps back from v the rim is met -/
structure Way (b : Blank) (l : List Pt) (s : Srch) (v : Int) (m : Nat) : Prop where
  pos : 0 < m
  rim : back s.last m v = -1
  ins : ∀ i, i < m → In l.length (back s.last i v)
  mem : ∀ i, i + 1 < m → Lst s (back s.last i v) ∈ edgeList b l
  lst : Lst s (back s.last (m - 1) v) = e0 b l (back s.last (m - 1) v)
  sum : wsum s.last v m ≤ R s v
  to : ∀ i, i + 1 < m → (Lst s (back s.last i v)).to = back s.last i v
theorem settled_way {b : Blank} {l : List Pt} (hb : b.ok = true) (hp : PtB l) (hl : l.length ≤ 4096) (hc : (settled b l).ch = -1) {v : Int} (hv : In l.length v) :
    ∃ m, m ≤ 67108864 ∧ Way b l (settled b l) v m := by
  obtain ⟨p, t, rho, tau, h1, h2, h3⟩ := settled_inv hb hp
  obtain ⟨m, hm, hm0, g⟩ := h1.way (edges_edgeList hb hp) (h1.settled (edges_edgeList hb hp) hc) (fun i => rfl) (fun i => rfl) (tau v) v hv (Nat.le_refl _)
  have h4 := (h1.top v hv).2
  have h5 : (l.length + 2) * (3 * l.length) ≤ 4098 * 12288 := Nat.mul_le_mul (by omega) (by omega)
  exact ⟨m, by omega, hm0, g.1, g.2.1, g.2.2.1, g.2.2.2.1, g.2.2.2.2.1, g.2.2.2.2.2⟩
theorem settled_len {b : Blank} {l : List Pt} (hb : b.ok = true) (hp : PtB l) : (settled b l).r.length = l.length ∧ (settled b l).last.length = l.length := by
  obtain ⟨p, t, rho, tau, h1, _, _⟩ := settled_inv hb hp
  exact ⟨h1.rl, h1.ll⟩
theorem round_len (b : Blank) (l : List Pt) (r : List Int) (last : List Edge) : (round b l r last).r.length = r.length ∧ (round b l r last).last.length = last.length := ⟨foldl_rlen _ _, foldl_llen _ _⟩
theorem rounds_stop {b : Blank} {l : List Pt} {f : Nat} {r : List Int} {last : List Edge} (h : (round b l r last).ch = -1) : rounds b l (f + 1) r last = round b l r last := if_pos h
theorem rounds_last {b : Blank} {l : List Pt} {r : List Int} {last : List Edge} : rounds b l 1 r last = round b l r last := by
  show (if (round b l r last).ch = -1 then round b l r last else if (0 : Nat) = 0 then round b l r last else _) = _
  split <;> simp
theorem rounds_go {b : Blank} {l : List Pt} {f : Nat} {r : List Int} {last : List Edge} (h : (round b l r last).ch ≠ -1) (hf : f ≠ 0) : rounds b l (f + 1) r last = rounds b l f (round b l r last).r (round b l r last).last := by
  show (if (round b l r last).ch = -1 then round b l r last else if f = 0 then round b l r last else _) = _
  rw [if_neg h, if_neg hf]
end Go.Proofs.YtogljfjbilndnaaGreatDoor.Lathe
/- lathe: the search, walked -/
namespace Go.Proofs.YtogljfjbilndnaaGreatDoor.Lathe
open Go.Sx Go.Proofs

/-- What the search finds: radii, or steps that prove that there are none. -/
def Search (b : Blank) (l : List Pt) (rad : List Int) (st : List Stp) : Prop :=
  ((settled b l).ch ≠ -1 ∧ rad = [] ∧ ∃ m, Circ (settled b l).last (back (settled b l).last l.length (settled b l).ch) m ∧ st = (csteps (settled b l).last (back (settled b l).last l.length (settled b l).ch) m).reverse) ∨
  ((settled b l).ch = -1 ∧ rad = [] ∧ ∃ i : Nat, i < l.length ∧ (settled b l).r.getD i default + (edgeOf b l 2 i).1.wt < 0 ∧ ∃ m, Way b l (settled b l) i m ∧ st = (wsteps (settled b l).last (edgeOf b l 2 i).1 m).reverse) ∨
  ((settled b l).ch = -1 ∧ rad = (settled b l).r ∧ st = [] ∧ ∀ i : Nat, i < l.length → 0 ≤ (settled b l).r.getD i default + (edgeOf b l 2 i).1.wt)

theorem start_of {b : Blank} {l : List Pt} {r : List Int} (hr : r.length = l.length) (h : ∀ q, q < l.length → r.getD q default = b.rim - (l.getD q default).out) : r = start b l := by
  apply list_ext_getD (by rw [hr, start_length])
  intro q hq
  rw [hr] at hq
  rw [h q hq]; simp [start, List.getD, hq]
theorem rim_of {b : Blank} {l : List Pt} {r : List Edge} (hr : r.length = l.length) (h : ∀ q : Nat, q < l.length → r.getD q default = (edgeOf b l 1 q).1) : r = rimEdges b l := by
  apply list_ext_getD (by rw [hr, rimEdges_length])
  intro q hq
  rw [hr] at hq
  rw [h q hq]; simp [rimEdges, List.getD, hq]
theorem start_bd {b : Blank} {l : List Pt} (hb : b.ok = true) (hp : PtB l) : Bd (start b l) l.length (-16777216) := by
  rw [Blank.ok_iff] at hb
  intro q hq
  have := hp q hq
  simp only [start, List.getD, List.getElem?_map, List.getElem?_eq_getElem hq, Option.map_some, Option.getD_some] at this ⊢; omega

theorem j4 (a b c d : Nat × Obj) (I1 I2 G : Items) : (a :: b :: c :: d :: (I1 ++ I2)) ++ G = a :: b :: c :: d :: (I1 ++ (I2 ++ G)) := by simp
set_option maxRecDepth 10000 in
set_option maxHeartbeats 2000000 in
theorem C_lathe_search {b : Blank} {A : Option Addr} {l : List Pt} {c bs : Nat} {w : World} (hs : SideAt w bs b A l c) (hp : RdL w 2 ePt A l) (hb : b.ok = true) (hl : l.length ≤ 4096) (hpt : l.all ptOk = true) :
    Con Tryz.prog 17 [ptr bs 0] w (fun y : List Int × List Stp × (Option Addr × Nat × Items) × (Option Addr × Nat × Items) => Search b l y.1 y.2.1 ∧ Own 1 2 eI y.1 (.slice y.2.2.1.1 y.1.length y.2.2.1.2.1) y.2.2.1.2.2 ∧ Own 2 70 eStp y.2.1 (.slice y.2.2.2.1 y.2.1.length y.2.2.2.2.1) y.2.2.2.2.2)
      (fun y => .agg #[.slice y.2.2.1.1 y.1.length y.2.2.1.2.1, .slice y.2.2.2.1 y.2.1.length y.2.2.2.2.1]) (fun y => y.2.2.1.2.2 ++ y.2.2.2.2.2) := by
  have hpb := ptB_of hpt
  refine Ret_of (vs := [_]) hm none' Tryz.func17 rfl Tryz.ntmps17 rfl ?_
  dsimp only [slotsOf]
  refine GE_seq ?_
  refine GE_plain (.ld 0 [] .nil) rfl ?_
  refine GT_alloc rfl rfl rfl rfl rfl zc_63 (fun _ => GR_nil) (fun b2 => ?_)
  refine GT_nil ?_
  refine GE_seq ?_
  refine GE_plain (.st 0 (.st 1 (.st 2 (.st 3 (.st 4 (.st 5 .nil)))))) rfl ?_
  refine GT_st rfl rfl rfl rfl (V_move rfl rfl) ?_
  first | refine GT_st rfl rfl rfl rfl (V_nilCheck rfl rfl) ?_ | refine GT_st rfl rfl rfl rfl (V_nilCheck_func rfl rfl) ?_ | refine GT_st rfl rfl rfl rfl (V_nilCheck_yield rfl rfl) ?_
  first | refine GT_st rfl rfl rfl rfl (V_field rfl rfl fo_102_1) ?_ | refine GT_st rfl rfl rfl rfl (V_fieldA rfl rfl fo_102_1) ?_
  first | refine GT_st rfl rfl rfl rfl (V_load rfl rfl ag_30 (CellAt.item rfl)) ?_ | refine GT_st rfl rfl rfl rfl (V_load rfl rfl ag_30 (CellAt.old (hs.cell rfl) (noM _))) ?_
  refine GT_st rfl rfl rfl rfl (V_len rfl Tryz.underlying30 rfl) ?_
  refine GT_st rfl rfl rfl rfl (V_assign rfl rfl) ?_
  refine GT_nil ?_
  refine GE_cut (ι := Nat × Nat × Nat × Nat × Nat) (fun x => [(0, ptr bs 0), (2, ptr x.1 0), (3, I l.length), (4, ptr x.2.1 0), (5, ptr x.2.2.1 0)]) (fun x => [(x.2.2.2.1, blk ((List.replicate l.length [I 0]).flatten) 2), (x.2.2.2.2, blk ((List.replicate l.length [I 0, I 0, I 0, I 0, I 0]).flatten) 72), (x.2.1, blk [.slice (some ⟨x.2.2.2.1, 0, none⟩) l.length l.length] 38), (x.2.2.1, blk [.slice (some ⟨x.2.2.2.2, 0, none⟩) l.length l.length] 103), (x.1, blk [.slice none 0 0, .slice none 0 0] 63)]) (fun x => True) ?_ (fun hk => ?_)
  · rintro ⟨b2, b4, b5, br, bl⟩ -; dsimp only
    refine GE_seq ?_
    refine GE_seq ?_
    refine GE_plain (.st 0 (.st 1 .nil)) rfl ?_
    refine GT_st rfl rfl rfl rfl (V_move rfl rfl) ?_
    refine GT_st rfl rfl rfl rfl (V_move rfl rfl) ?_
    refine GT_nil ?_
    refine GE_block ?_
    refine GE_to (GE_loop (ι := Nat × List Int × List Edge × Items × Items) (fun x => l.length - x.1) (fun x => [(0, ptr bs 0), (2, ptr b2 0), (3, I l.length), (4, ptr b4 0), (5, ptr b5 0), (22, I l.length), (23, I x.1)]) (fun x => x.2.2.2.1 ++ (x.2.2.2.2 ++ [(b4, blk [.slice (some ⟨br, 0, none⟩) l.length l.length] 38), (b5, blk [.slice (some ⟨bl, 0, none⟩) l.length l.length] 103), (b2, blk [.slice none 0 0, .slice none 0 0] 63)])) (fun x => x.1 ≤ l.length ∧ x.2.1.length = l.length ∧ x.2.2.1.length = l.length ∧ (∀ q, q < x.1 → x.2.1.getD q default = b.rim - (l.getD q default).out) ∧ (∀ q : Nat, q < x.1 → x.2.2.1.getD q default = (edgeOf b l 1 q).1) ∧ Own 1 2 eI x.2.1 (.slice (some ⟨br, 0, none⟩) l.length l.length) x.2.2.2.1 ∧ Own 5 72 eEdge x.2.2.1 (.slice (some ⟨bl, 0, none⟩) l.length l.length) x.2.2.2.2) ?_ (0, List.replicate l.length 0, List.replicate l.length ⟨0, 0, 0, 0, 0⟩, [(br, blk ((List.replicate l.length [I 0]).flatten) 2)], [(bl, blk ((List.replicate l.length [I 0, I 0, I 0, I 0, I 0]).flatten) 72)]) ?_) ⟨rfl, rfl, rfl, rfl, rfl, rfl, rfl, trivial⟩ (show HS _ _ ([(br, blk ((List.replicate l.length [I 0]).flatten) 2)] ++ ([(bl, blk ((List.replicate l.length [I 0, I 0, I 0, I 0, I 0]).flatten) 72)] ++ [(b4, blk [.slice (some ⟨br, 0, none⟩) l.length l.length] 38), (b5, blk [.slice (some ⟨bl, 0, none⟩) l.length l.length] 103), (b2, blk [.slice none 0 0, .slice none 0 0] 63)])) from HS.cons rfl (HS.cons rfl (HS.cons rfl (HS.cons rfl (HS.cons rfl HS.nil)))))
    · rintro ⟨k, r, last, Ir, Il⟩ ⟨hk, hrl, hll, hrq, hlq, hOr, hOl⟩ ih; dsimp only at hk hrl hll hrq hlq hOr hOl ih ⊢
      refine GE_seq ?_
      refine GE_plain (.st 0 .nil) rfl ?_
      refine GT_st rfl rfl rfl rfl (V_lss rfl rfl rfl) ?_
      refine GT_nil ?_
      refine GE_seq ?_
      first | refine GE_condNot rfl (fun h1 => ?_) (fun h1 => ?_) | refine GE_cond rfl (fun h1 => ?_) (fun h1 => ?_) | refine GE_condNotB rfl (fun h1 => ?_) (fun h1 => ?_) | refine GE_condB rfl (fun h1 => ?_) (fun h1 => ?_)
      · have hkl : k < l.length := (by omega)
        refine GE_skip ?_
        refine GE_seq ?_
        refine GE_block ?_
        refine GE_seq ?_
        refine GE_plain (.st 0 (.st 1 .nil)) rfl ?_
        refine GT_st rfl rfl rfl rfl (V_move rfl rfl) ?_
        refine GT_st rfl rfl rfl rfl (V_assign rfl rfl) ?_
        refine GT_nil ?_
        refine GE_seq ?_
        refine GE_drawn (.st 0 (.st 1 (.st 2 (.st 3 (.ld 4 [0, 1] (.st 5 (.st 6 (.st 7 (.st 8 (.ld 9 [7] .nil)))))))))) [4, 9] (by decide +kernel) ?_
        first | refine GT_st rfl rfl rfl rfl (V_load rfl rfl ag_103 (CellAt.item rfl)) ?_ | refine GT_st rfl rfl rfl rfl (V_load rfl rfl ag_103 (CellAt.old (hs.cell rfl) (noM _))) ?_
        refine GT_st rfl rfl rfl rfl (V_move rfl rfl) ?_
        refine GT_st rfl rfl rfl rfl (V_move rfl rfl) ?_
        refine GT_st rfl rfl rfl rfl (V_move rfl rfl) ?_
        refine GT_call0 rfl rfl rfl rfl rfl rfl rfl rfl rn_23 (fun w hw => C_lathe_edge (hs.sh hw) (hp.sh hw) hb hl hpt) (GR_cons rfl rfl rfl rfl ((by first | exact V_load rfl rfl ag_103 (CellAt.item rfl) | exact V_load rfl rfl ag_103 (CellAt.old (hs.cell rfl) (noM _)))) (GR_cons rfl rfl rfl rfl (V_move rfl rfl) (GR_nil))) ?_
        refine GT_st rfl rfl rfl rfl (V_move rfl rfl) ?_
        refine GT_st rfl rfl rfl rfl (V_extract rfl rfl rfl) ?_
        refine GT_st rfl rfl rfl rfl (V_extract rfl rfl rfl) ?_
        refine GT_st rfl rfl rfl rfl (V_index rfl rfl rfl Tryz.underlying103 sz_72 (k := k) rfl (by omega) (hOl.isSome (k := k) (by omega))) ?_
        refine GT_storeOwn (enc := eEdge) (q := k) (xx := (edgeOf b l 1 k).1) rfl rfl rfl rfl rfl rfl rfl sz_72 hOl eEdge_len eEdge_one (by omega) (by decide) (fun _ _ => GR_cons rfl rfl rfl rfl (V_extract rfl rfl rfl) (GR_nil)) (fun I1 hO1 => ?_)
        refine GT_nil ?_
        refine GE_slots (L' := [(0, _), (2, _), (3, _), (4, _), (5, _), (6, _), (22, _), (23, _)]) ⟨rfl, rfl, rfl, rfl, rfl, rfl, rfl, rfl, trivial⟩ ?_
        refine GE_drawn (.st 0 (.st 1 (.st 2 (.st 3 (.st 4 (.st 5 (.st 6 (.st 7 (.ld 8 [] .nil))))))))) [8] (by decide +kernel) ?_
        first | refine GT_st rfl rfl rfl rfl (V_load rfl rfl ag_38 (CellAt.item rfl)) ?_ | refine GT_st rfl rfl rfl rfl (V_load rfl rfl ag_38 (CellAt.old (hs.cell rfl) (noM _))) ?_
        refine GT_st rfl rfl rfl rfl (V_move rfl rfl) ?_
        first | refine GT_st rfl rfl rfl rfl (V_load rfl rfl ag_103 (CellAt.item rfl)) ?_ | refine GT_st rfl rfl rfl rfl (V_load rfl rfl ag_103 (CellAt.old (hs.cell rfl) (noM _))) ?_
        refine GT_st rfl rfl rfl rfl (V_move rfl rfl) ?_
        refine GT_st rfl rfl rfl rfl (V_index rfl rfl rfl Tryz.underlying103 sz_72 (k := k) rfl (by omega) (hOl.isSome (k := k) (by omega))) ?_
        first | refine GT_st rfl rfl rfl rfl (V_field rfl rfl fo_72_3) ?_ | refine GT_st rfl rfl rfl rfl (V_fieldA rfl rfl fo_72_3) ?_
        refine GT_st rfl rfl rfl rfl (V_load rfl rfl ag_2 (CellAt.own hO1 eEdge_len (by simp; omega) rfl)) ?_
        refine GT_st rfl rfl rfl rfl (V_index rfl rfl rfl Tryz.underlying38 sz_2 (k := k) rfl (by omega) (hOr.isSome (k := k) (by omega))) ?_
        refine GT_storeOwn (enc := eI) (q := k) (xx := ((last.set k (edgeOf b l 1 k).1).getD k default).wt) rfl rfl rfl rfl rfl rfl rfl sz_2 hOr eI_len eI_one (by omega) (by decide) (fun _ _ => GR_nil) (fun I2 hO2 => ?_)
        refine GT_nil ?_
        refine GE_inBlock ?_
        refine GE_slots (L' := [(0, _), (2, _), (3, _), (4, _), (5, _), (22, _), (23, _)]) ⟨rfl, rfl, rfl, rfl, rfl, rfl, rfl, trivial⟩ ?_
        refine GE_plain (.st 0 (.ld 1 [] .nil)) rfl ?_
        refine GT_st rfl rfl rfl rfl (V_add rfl rfl rfl (wrap_i64 (by omega))) ?_
        refine GT_ldv rfl rfl rfl rfl rfl (V_move rfl rfl) (GR_nil) ?_
        refine GT_nil ?_
        refine GE_to (ih (k + 1, _, _, I2, I1) ⟨by dsimp only; omega, ?_, ?_, ?_, ?_, hO2, hO1⟩ (by dsimp only; omega)) ⟨rfl, rfl, rfl, rfl, rfl, rfl, rfl, trivial⟩ (HS.chunk (HS.chunk (HS.cons rfl (HS.cons rfl (HS.cons rfl HS.nil)))))
        · simpa using hrl
        · simpa using hll
        · intro q hq
          dsimp only at hq ⊢
          rw [getD_set (by omega)]
          split
          · rename_i e; subst e; rw [getD_set (by omega), if_pos rfl, edgeOf_one ⟨by omega, by omega⟩]; simp
          · exact hrq q (by omega)
        · intro q hq
          dsimp only at hq ⊢
          rw [getD_set (by omega)]
          split
          · rename_i e; subst e; rfl
          · exact hlq q (by omega)
      · obtain rfl : k = l.length := (by omega); obtain rfl := start_of hrl hrq; obtain rfl := rim_of hll hlq; have hbd0 := start_bd hb hpb
        refine GE_exit rfl ?_
        refine GE_seq ?_
        refine GE_seq ?_
        refine GE_plain (.st 0 .nil) rfl ?_
        refine GT_st rfl rfl rfl rfl (V_assign rfl rfl) ?_
        refine GT_nil ?_
        refine GE_block ?_
        refine GE_to (GE_loopD (ι := Nat × List Int × List Edge × Items × Items × List Nat) (fun x => l.length + 2 - x.1) (fun x => [(0, ptr bs 0), (2, ptr b2 0), (3, I l.length), (4, ptr b4 0), (5, ptr b5 0), (7, I x.1)]) (fun x => dq x.2.2.2.2.2) (fun x => x.2.2.2.1 ++ (x.2.2.2.2.1 ++ (iq x.2.2.2.2.2 ++ [(b4, blk [.slice (some ⟨br, 0, none⟩) l.length l.length] 38), (b5, blk [.slice (some ⟨bl, 0, none⟩) l.length l.length] 103), (b2, blk [.slice none 0 0, .slice none 0 0] 63)]))) (fun x => x.1 ≤ l.length + 1 ∧ x.2.1.length = l.length ∧ x.2.2.1.length = l.length ∧ Bd x.2.1 l.length (-16777216 - 16777216 * (12288 * (x.1 : Int))) ∧ Own 1 2 eI x.2.1 (.slice (some ⟨br, 0, none⟩) l.length l.length) x.2.2.2.1 ∧ Own 5 72 eEdge x.2.2.1 (.slice (some ⟨bl, 0, none⟩) l.length l.length) x.2.2.2.2.1 ∧ rounds b l (l.length + 2 - x.1) x.2.1 x.2.2.1 = settled b l) ?_ (0, start b l, rimEdges b l, Ir, Il, []) ?_) ⟨rfl, rfl, rfl, rfl, rfl, rfl, trivial⟩ (HS.chunk (HS.chunk (HS.chunk (HS.cons rfl (HS.cons rfl (HS.cons rfl HS.nil))))))
        · rintro ⟨k, r, last, Ir, Il, qs⟩ ⟨hk, hrl, hll, hbd, hOr, hOl, hset⟩ ih; dsimp only at hk hrl hll hbd hOr hOl hset ih ⊢
          refine GE_seq ?_
          refine GE_block ?_
          refine GE_scope ?_
          refine GE_seq ?_
          refine GE_plain (.ld 0 [] (.ld 1 [] .nil)) rfl ?_
          refine GT_alloc rfl rfl rfl rfl rfl zc_3 (fun _ => GR_nil) (fun b8 => ?_)
          refine GT_store (vs := [_]) (l' := [_]) rfl rfl rfl rfl rfl rfl rfl sz_3 rfl rfl (Nat.le_of_ble_eq_true rfl) rfl (GR_nil) ?_
          refine GT_nil ?_
          refine GE_seq ?_
          refine GE_label ?_
          refine GE_seq ?_
          refine GE_seq ?_
          refine GE_plain (.st 0 (.ld 1 [] .nil)) rfl ?_
          refine GT_st rfl rfl rfl rfl (V_move rfl rfl) ?_
          refine GT_call rfl rfl rfl rfl rfl rfl rfl rfl rn_33 (fun w hw => C_lathe_edges) (fun _ _ => GR_nil) (fun bb _ => ?_)
          refine GT_nil ?_
          refine GE_block ?_
          refine GE_range rfl rfl rn_56 (fun T l5 q r0 hr0 hT hlk w hw => ?_)
          refine (C_edges1 (c := c) (lp := l5) (J := (l5, .loop r0) :: (b8, blk [I (-1)] 3) :: (b4, blk [.slice (some ⟨br, 0, none⟩) l.length l.length] 38) :: (b5, blk [.slice (some ⟨bl, 0, none⟩) l.length l.length] 103) :: (Ir ++ Il)) (G := (q, .deferred (some [])) :: (iq qs ++ [(b2, blk [.slice none 0 0, .slice none 0 0] 63)]))
            (Q := fun pre J => ∃ Ir Il, Own 1 2 eI (pre.foldl relax ⟨r, last, -1⟩).r (.slice (some ⟨br, 0, none⟩) l.length l.length) Ir ∧ Own 5 72 eEdge (pre.foldl relax ⟨r, last, -1⟩).last (.slice (some ⟨bl, 0, none⟩) l.length l.length) Il ∧ J = (l5, .loop r0) :: (b8, blk [I (pre.foldl relax ⟨r, last, -1⟩).ch] 3) :: (b4, blk [.slice (some ⟨br, 0, none⟩) l.length l.length] 38) :: (b5, blk [.slice (some ⟨bl, 0, none⟩) l.length l.length] 103) :: (Ir ++ Il))
            hs hp hb hl hpt ?_ ⟨Ir, Il, hOr, hOl, rfl⟩ (hw.hs ((show HS _ _ ((l5, .loop r0) :: (b8, _) :: (b4, _) :: (b5, _) :: (Ir ++ (Il ++ ((bb, _) :: (q, .deferred (some [])) :: (iq qs ++ [(b2, _)]))))) from HS.cons rfl (HS.cons rfl (HS.cons rfl (HS.cons rfl (HS.chunk (HS.chunk (HS.cons rfl (HS.cons rfl (HS.chunk (HS.cons rfl HS.nil)))))))))).eq (by simp)))).mono (fun v w' ⟨J', ⟨Ir1, Il1, hOr1, hOl1, hJ'⟩, hw'⟩ => ?_)
          · intro pre x J hpre ⟨Ir2, Il2, hOr2, hOl2, hJ⟩ G; subst hJ; subst hr0
            have hxe := mem_edgeList.1 (hpre.subset (List.mem_append_right _ (List.mem_singleton.2 rfl)))
            obtain ⟨hxf, hxt, hxn, hw1, hw2⟩ := isEdge_facts hb hpb hxe
            have hbd2 := round_bd (last := last) hb hpb hrl hbd ((List.prefix_append pre [x]).trans hpre)
            have hl2 := (foldl_rlen pre ⟨r, last, -1⟩).trans hrl
            have hll2 := (foldl_llen pre ⟨r, last, -1⟩).trans hll
            have hq : (pre ++ [x]).foldl relax ⟨r, last, -1⟩ = relax (pre.foldl relax ⟨r, last, -1⟩) x := by rw [List.foldl_append]; rfl
            rw [hq]; clear hq
            generalize pre.foldl relax ⟨r, last, -1⟩ = s at *
            unfold In at hxf hxt
            have hB1 := hbd2 x.frm.toNat (by omega)
            have hB2 := hbd2 x.to.toNat (by omega)
            refine yield_of inferInstance rfl rfl hT hlk rfl rfl hm ?_
            refine GE_slots (L' := [(3, I l.length), (4, ptr b4 0), (5, ptr b5 0), (8, ptr b8 0), (48, .agg (eEdge x).toArray)]) ⟨rfl, rfl, rfl, rfl, rfl, trivial⟩ ?_
            refine GE_plain (.ld 0 [] (.ld 1 [] .nil)) rfl ?_
            refine GT_alloc rfl rfl rfl rfl rfl zc_72 (fun _ => GR_nil) (fun b9 => ?_)
            refine GT_store (vs := [_, _, _, _, _]) (l' := [_, _, _, _, _]) rfl rfl rfl rfl rfl rfl rfl sz_72 rfl rfl (Nat.le_of_ble_eq_true rfl) rfl (GR_nil) ?_
            refine GT_nil ?_
            refine GE_beginRound rfl ?_
            refine GE_block ?_
            refine GE_seq ?_
            refine GE_seq ?_
            refine GE_drawn (.st 0 (.st 1 (.st 2 (.st 3 (.st 4 (.st 5 (.st 6 (.st 7 (.st 8 (.st 9 (.st 10 (.st 11 (.st 12 (.st 13 .nil)))))))))))))) [] (by decide +kernel) ?_
            first | refine GT_st rfl rfl rfl rfl (V_load rfl rfl ag_38 (CellAt.item rfl)) ?_ | refine GT_st rfl rfl rfl rfl (V_load rfl rfl ag_38 (CellAt.old (hs.cell rfl) (noM _))) ?_
            first | refine GT_st rfl rfl rfl rfl (V_field rfl rfl fo_72_1) ?_ | refine GT_st rfl rfl rfl rfl (V_fieldA rfl rfl fo_72_1) ?_
            first | refine GT_st rfl rfl rfl rfl (V_load rfl rfl ag_3 (CellAt.item rfl)) ?_ | refine GT_st rfl rfl rfl rfl (V_load rfl rfl ag_3 (CellAt.old (hs.cell rfl) (noM _))) ?_
            refine GT_st rfl rfl rfl rfl (V_index rfl rfl rfl Tryz.underlying38 sz_2 (k := x.frm.toNat) (by omega) (by omega) (hOr2.isSome (k := x.frm.toNat) (by omega))) ?_
            refine GT_st rfl rfl rfl rfl (V_load rfl rfl ag_2 (CellAt.own0 hOr2 eI_len (by omega) rfl)) ?_
            first | refine GT_st rfl rfl rfl rfl (V_field rfl rfl fo_72_3) ?_ | refine GT_st rfl rfl rfl rfl (V_fieldA rfl rfl fo_72_3) ?_
            first | refine GT_st rfl rfl rfl rfl (V_load rfl rfl ag_2 (CellAt.item rfl)) ?_ | refine GT_st rfl rfl rfl rfl (V_load rfl rfl ag_2 (CellAt.old (hs.cell rfl) (noM _))) ?_
            refine GT_st rfl rfl rfl rfl (V_add rfl rfl rfl (wrap_i64 (by omega))) ?_
            first | refine GT_st rfl rfl rfl rfl (V_load rfl rfl ag_38 (CellAt.item rfl)) ?_ | refine GT_st rfl rfl rfl rfl (V_load rfl rfl ag_38 (CellAt.old (hs.cell rfl) (noM _))) ?_
            first | refine GT_st rfl rfl rfl rfl (V_field rfl rfl fo_72_2) ?_ | refine GT_st rfl rfl rfl rfl (V_fieldA rfl rfl fo_72_2) ?_
            first | refine GT_st rfl rfl rfl rfl (V_load rfl rfl ag_3 (CellAt.item rfl)) ?_ | refine GT_st rfl rfl rfl rfl (V_load rfl rfl ag_3 (CellAt.old (hs.cell rfl) (noM _))) ?_
            refine GT_st rfl rfl rfl rfl (V_index rfl rfl rfl Tryz.underlying38 sz_2 (k := x.to.toNat) (by omega) (by omega) (hOr2.isSome (k := x.frm.toNat) (by omega))) ?_
            refine GT_st rfl rfl rfl rfl (V_load rfl rfl ag_2 (CellAt.own0 hOr2 eI_len (by omega) rfl)) ?_
            refine GT_st rfl rfl rfl rfl (V_geq rfl rfl rfl) ?_
            refine GT_nil ?_
            first | refine GE_condNot rfl (fun hge => ?_) (fun hge => ?_) | refine GE_cond rfl (fun hge => ?_) (fun hge => ?_) | refine GE_condNotB rfl (fun hge => ?_) (fun hge => ?_) | refine GE_condB rfl (fun hge => ?_) (fun hge => ?_)
            · rw [relax_no (by unfold R; omega)]
              refine GE_exit rfl ?_
              first
                | (refine GE_leave none rfl (fun w hw => ⟨_, ⟨_, rfl, ⟨Ir3, Il3, hOr3, hOl3, rfl⟩, rfl⟩, ?_⟩); rw [j4]; exact hw.hs (HS.cons rfl (HS.cons rfl (HS.cons rfl (HS.cons rfl (HS.chunk (HS.chunk HS.last)))))))
                | (refine GE_leave none rfl (fun w hw => ⟨_, ⟨_, rfl, ⟨Ir2, Il2, hOr2, hOl2, rfl⟩, rfl⟩, ?_⟩); rw [j4]; exact hw.hs (HS.cons rfl (HS.cons rfl (HS.cons rfl (HS.cons rfl (HS.chunk (HS.chunk HS.last)))))))
            · rw [relax_yes (by unfold R; omega)]
              refine GE_skip ?_
              refine GE_slots (L' := [(4, _), (5, _), (8, _), (9, _)]) ⟨rfl, rfl, rfl, rfl, trivial⟩ ?_
              refine GE_drawn (.st 0 (.st 1 (.st 2 (.st 3 (.st 4 (.st 5 (.st 6 (.st 7 (.st 8 (.st 9 (.st 10 (.st 11 (.st 12 (.st 13 (.st 14 (.st 15 (.st 16 (.st 17 (.ld 18 [3, 4, 5, 14, 15, 16] (.st 19 (.ld 20 [15, 16] (.ld 21 [] .nil)))))))))))))))))))))) [18, 20, 21] (by decide +kernel) ?_
              first | refine GT_st rfl rfl rfl rfl (V_load rfl rfl ag_38 (CellAt.item rfl)) ?_ | refine GT_st rfl rfl rfl rfl (V_load rfl rfl ag_38 (CellAt.old (hs.cell rfl) (noM _))) ?_
              first | refine GT_st rfl rfl rfl rfl (V_field rfl rfl fo_72_2) ?_ | refine GT_st rfl rfl rfl rfl (V_fieldA rfl rfl fo_72_2) ?_
              first | refine GT_st rfl rfl rfl rfl (V_load rfl rfl ag_3 (CellAt.item rfl)) ?_ | refine GT_st rfl rfl rfl rfl (V_load rfl rfl ag_3 (CellAt.old (hs.cell rfl) (noM _))) ?_
              first | refine GT_st rfl rfl rfl rfl (V_load rfl rfl ag_103 (CellAt.item rfl)) ?_ | refine GT_st rfl rfl rfl rfl (V_load rfl rfl ag_103 (CellAt.old (hs.cell rfl) (noM _))) ?_
              first | refine GT_st rfl rfl rfl rfl (V_field rfl rfl fo_72_2) ?_ | refine GT_st rfl rfl rfl rfl (V_fieldA rfl rfl fo_72_2) ?_
              first | refine GT_st rfl rfl rfl rfl (V_load rfl rfl ag_3 (CellAt.item rfl)) ?_ | refine GT_st rfl rfl rfl rfl (V_load rfl rfl ag_3 (CellAt.old (hs.cell rfl) (noM _))) ?_
              first | refine GT_st rfl rfl rfl rfl (V_load rfl rfl ag_38 (CellAt.item rfl)) ?_ | refine GT_st rfl rfl rfl rfl (V_load rfl rfl ag_38 (CellAt.old (hs.cell rfl) (noM _))) ?_
              first | refine GT_st rfl rfl rfl rfl (V_field rfl rfl fo_72_1) ?_ | refine GT_st rfl rfl rfl rfl (V_fieldA rfl rfl fo_72_1) ?_
              first | refine GT_st rfl rfl rfl rfl (V_load rfl rfl ag_3 (CellAt.item rfl)) ?_ | refine GT_st rfl rfl rfl rfl (V_load rfl rfl ag_3 (CellAt.old (hs.cell rfl) (noM _))) ?_
              refine GT_st rfl rfl rfl rfl (V_index rfl rfl rfl Tryz.underlying38 sz_2 (k := x.frm.toNat) (by omega) (by omega) (hOr2.isSome (k := x.frm.toNat) (by omega))) ?_
              refine GT_st rfl rfl rfl rfl (V_load rfl rfl ag_2 (CellAt.own0 hOr2 eI_len (by omega) rfl)) ?_
              first | refine GT_st rfl rfl rfl rfl (V_field rfl rfl fo_72_3) ?_ | refine GT_st rfl rfl rfl rfl (V_fieldA rfl rfl fo_72_3) ?_
              first | refine GT_st rfl rfl rfl rfl (V_load rfl rfl ag_2 (CellAt.item rfl)) ?_ | refine GT_st rfl rfl rfl rfl (V_load rfl rfl ag_2 (CellAt.old (hs.cell rfl) (noM _))) ?_
              refine GT_st rfl rfl rfl rfl (V_add rfl rfl rfl (wrap_i64 (by omega))) ?_
              refine GT_st rfl rfl rfl rfl (V_loadN (vs := [_, _, _, _, _]) rfl rfl ag_72 sz_72 rfl (CellsAt.item rfl)) ?_
              first | refine GT_st rfl rfl rfl rfl (V_field rfl rfl fo_72_2) ?_ | refine GT_st rfl rfl rfl rfl (V_fieldA rfl rfl fo_72_2) ?_
              first | refine GT_st rfl rfl rfl rfl (V_load rfl rfl ag_3 (CellAt.item rfl)) ?_ | refine GT_st rfl rfl rfl rfl (V_load rfl rfl ag_3 (CellAt.old (hs.cell rfl) (noM _))) ?_
              refine GT_st rfl rfl rfl rfl (V_index rfl rfl rfl Tryz.underlying38 sz_2 (k := x.to.toNat) (by omega) (by omega) (hOr2.isSome (k := x.frm.toNat) (by omega))) ?_
              refine GT_storeOwn (enc := eI) (q := x.to.toNat) (xx := R s x.frm + x.wt) rfl rfl rfl rfl rfl rfl rfl sz_2 hOr2 eI_len eI_one (by omega) (by decide) (fun _ _ => GR_cons rfl rfl rfl rfl ((by first | exact V_load rfl rfl ag_103 (CellAt.item rfl) | exact V_load rfl rfl ag_103 (CellAt.old (hs.cell rfl) (noM _)))) (GR_cons rfl rfl rfl rfl ((by first | exact V_field rfl rfl fo_72_2 | exact V_fieldA rfl rfl fo_72_2)) (GR_cons rfl rfl rfl rfl ((by first | exact V_load rfl rfl ag_3 (CellAt.item rfl) | exact V_load rfl rfl ag_3 (CellAt.old (hs.cell rfl) (noM _)))) (GR_cons rfl rfl rfl rfl (V_loadN (vs := [_, _, _, _, _]) rfl rfl ag_72 sz_72 rfl (CellsAt.item rfl)) (GR_cons rfl rfl rfl rfl ((by first | exact V_field rfl rfl fo_72_2 | exact V_fieldA rfl rfl fo_72_2)) (GR_cons rfl rfl rfl rfl ((by first | exact V_load rfl rfl ag_3 (CellAt.item rfl) | exact V_load rfl rfl ag_3 (CellAt.old (hs.cell rfl) (noM _)))) (GR_nil))))))) (fun Ir3 hOr3 => ?_)
              refine GT_st rfl rfl rfl rfl (V_index rfl rfl rfl Tryz.underlying103 sz_72 (k := x.to.toNat) (by omega) (by omega) (hOl2.isSome (k := x.frm.toNat) (by omega))) ?_
              refine GT_storeOwn (enc := eEdge) (q := x.to.toNat) (xx := x) rfl rfl rfl rfl rfl rfl rfl sz_72 hOl2 eEdge_len eEdge_one (by omega) (by decide) (fun _ _ => GR_cons rfl rfl rfl rfl ((by first | exact V_field rfl rfl fo_72_2 | exact V_fieldA rfl rfl fo_72_2)) (GR_cons rfl rfl rfl rfl ((by first | exact V_load rfl rfl ag_3 (CellAt.item rfl) | exact V_load rfl rfl ag_3 (CellAt.old (hs.cell rfl) (noM _)))) (GR_nil))) (fun Il3 hOl3 => ?_)
              refine GT_store (vs := [_]) (l' := [_]) rfl rfl rfl rfl rfl rfl rfl sz_3 rfl rfl (Nat.le_of_ble_eq_true rfl) rfl (GR_nil) ?_
              refine GT_nil ?_
              refine GE_inBlock ?_
              first
                | (refine GE_leave none rfl (fun w hw => ⟨_, ⟨_, rfl, ⟨Ir3, Il3, hOr3, hOl3, rfl⟩, rfl⟩, ?_⟩); rw [j4]; exact hw.hs (HS.cons rfl (HS.cons rfl (HS.cons rfl (HS.cons rfl (HS.chunk (HS.chunk HS.last)))))))
                | (refine GE_leave none rfl (fun w hw => ⟨_, ⟨_, rfl, ⟨Ir2, Il2, hOr2, hOl2, rfl⟩, rfl⟩, ?_⟩); rw [j4]; exact hw.hs (HS.cons rfl (HS.cons rfl (HS.cons rfl (HS.cons rfl (HS.chunk (HS.chunk HS.last)))))))
          · subst hJ'; subst hr0
            have es : List.foldl relax ⟨r, last, -1⟩ (edgeList b l) = round b l r last := rfl
            rw [es] at hOr1 hOl1 hw'
            have hbd1 := round_bd (last := last) hb hpb hrl hbd List.prefix_rfl
            rw [es] at hbd1
            obtain ⟨hrl1, hll1⟩ := round_len b l r last
            refine ⟨_, (b8, blk [I (round b l r last).ch] 3) :: (b4, blk [.slice (some ⟨br, 0, none⟩) l.length l.length] 38) :: (b5, blk [.slice (some ⟨bl, 0, none⟩) l.length l.length] 103) :: (Ir1 ++ (Il1 ++ (iq qs ++ [(b2, blk [.slice none 0 0, .slice none 0 0] 63)]))), ?_, hw'.hs (HS.cons rfl (HS.cons rfl (HS.cons rfl (HS.cons rfl (HS.cons rfl (HS.chunk (HS.chunk (HS.chunk (HS.cons rfl HS.nil))))))))), ?_⟩
            · intro h; cases h
            refine GE_D (D' := dq (q :: qs)) ?_ rfl
            refine GE_inBlock ?_
            refine GE_seq ?_
            refine GE_seq ?_
            refine GE_plain (.st 0 (.st 1 .nil)) rfl ?_
            first | refine GT_st rfl rfl rfl rfl (V_load rfl rfl ag_3 (CellAt.item rfl)) ?_ | refine GT_st rfl rfl rfl rfl (V_load rfl rfl ag_3 (CellAt.old (hs.cell rfl) (noM _))) ?_
            refine GT_st rfl rfl rfl rfl (V_eql rfl rfl rfl) ?_
            refine GT_nil ?_
            first | refine GE_condNot rfl (fun hch => ?_) (fun hch => ?_) | refine GE_cond rfl (fun hch => ?_) (fun hch => ?_) | refine GE_condNotB rfl (fun hch => ?_) (fun hch => ?_) | refine GE_condB rfl (fun hch => ?_) (fun hch => ?_)
            · have hset1 : settled b l = round b l r last := (by rw [← hset, show l.length + 2 - k = (l.length + 1 - k) + 1 by omega, rounds_stop hch]); rw [← hset1] at hOr1 hOl1 hbd1 hrl1 hll1 hch; rw [hrl] at hrl1; rw [hll] at hll1
              refine GE_exit rfl ?_
              refine GE_seq ?_
              refine GE_seq ?_
              refine GE_slots (L' := [(0, _), (2, _), (3, _), (4, _), (5, _)]) ⟨rfl, rfl, rfl, rfl, rfl, trivial⟩ ?_
              refine GE_plain (.st 0 (.st 1 .nil)) rfl ?_
              refine GT_st rfl rfl rfl rfl (V_move rfl rfl) ?_
              refine GT_st rfl rfl rfl rfl (V_move rfl rfl) ?_
              refine GT_nil ?_
              refine GE_block ?_
              refine GE_to (GE_loop (ι := Nat) (fun i => l.length - i) (fun i => [(0, ptr bs 0), (2, ptr b2 0), (4, ptr b4 0), (5, ptr b5 0), (91, I l.length), (92, I i)]) (fun i => Ir1 ++ (Il1 ++ (iq (q :: qs) ++ [(b4, blk [.slice (some ⟨br, 0, none⟩) l.length l.length] 38), (b5, blk [.slice (some ⟨bl, 0, none⟩) l.length l.length] 103), (b2, blk [.slice none 0 0, .slice none 0 0] 63)]))) (fun i => i ≤ l.length ∧ ∀ q : Nat, q < i → 0 ≤ (settled b l).r.getD q default + (edgeOf b l 2 q).1.wt) ?_ 0 ?_) ⟨rfl, rfl, rfl, rfl, rfl, rfl, trivial⟩ (HS.chunk (HS.chunk (HS.chunk (HS.cons rfl (HS.cons rfl (HS.cons rfl HS.nil))))))
              · rintro i ⟨hi, hiq⟩ ih3
                refine GE_seq ?_
                refine GE_plain (.st 0 .nil) rfl ?_
                refine GT_st rfl rfl rfl rfl (V_lss rfl rfl rfl) ?_
                refine GT_nil ?_
                refine GE_seq ?_
                first | refine GE_condNot rfl (fun h5 => ?_) (fun h5 => ?_) | refine GE_cond rfl (fun h5 => ?_) (fun h5 => ?_) | refine GE_condNotB rfl (fun h5 => ?_) (fun h5 => ?_) | refine GE_condB rfl (fun h5 => ?_) (fun h5 => ?_)
                · have hil : i < l.length := (by omega); have hBi := hbd1 i hil; have he2 := congrArg (fun e : Edge × Bool => e.1.wt) (edgeOf_two (b := b) (l := l) (i := (i : Int)) ⟨by omega, by omega⟩); have hpi := hpb i hil; have hbo := Blank.ok_iff.1 hb; simp only [Int.toNat_natCast] at he2
                  refine GE_skip ?_
                  refine GE_seq ?_
                  refine GE_block ?_
                  refine GE_seq ?_
                  refine GE_plain (.st 0 (.st 1 .nil)) rfl ?_
                  refine GT_st rfl rfl rfl rfl (V_move rfl rfl) ?_
                  refine GT_st rfl rfl rfl rfl (V_assign rfl rfl) ?_
                  refine GT_nil ?_
                  refine GE_seq ?_
                  refine GE_plain (.st 0 (.st 1 (.ld 2 [] (.st 3 (.st 4 (.st 5 (.ld 6 [] (.ld 7 [] (.st 8 .nil))))))))) rfl ?_
                  refine GT_st rfl rfl rfl rfl (V_move rfl rfl) ?_
                  refine GT_st rfl rfl rfl rfl (V_move rfl rfl) ?_
                  refine GT_call0 rfl rfl rfl rfl rfl rfl rfl rfl rn_23 (fun w hw => C_lathe_edge (hs.sh hw) (hp.sh hw) hb hl hpt) (GR_nil) ?_
                  refine GT_st rfl rfl rfl rfl (V_move rfl rfl) ?_
                  refine GT_st rfl rfl rfl rfl (V_extract rfl rfl rfl) ?_
                  refine GT_st rfl rfl rfl rfl (V_extract rfl rfl rfl) ?_
                  refine GT_alloc rfl rfl rfl rfl rfl zc_72 (fun _ => GR_nil) (fun b11 => ?_)
                  refine GT_store (vs := [_, _, _, _, _]) (l' := [_, _, _, _, _]) rfl rfl rfl rfl rfl rfl rfl sz_72 rfl rfl (Nat.le_of_ble_eq_true rfl) rfl (GR_nil) ?_
                  refine GT_st rfl rfl rfl rfl (V_assign rfl rfl) ?_
                  refine GT_nil ?_
                  refine GE_seq ?_
                  refine GE_slots (L' := [(0, _), (2, _), (4, _), (5, _), (10, _), (11, _), (91, _), (92, _)]) ⟨rfl, rfl, rfl, rfl, rfl, rfl, rfl, rfl, trivial⟩ ?_
                  refine GE_drawn (.st 0 (.st 1 (.st 2 (.st 3 (.st 4 (.st 5 (.st 6 (.st 7 .nil)))))))) [] (by decide +kernel) ?_
                  first | refine GT_st rfl rfl rfl rfl (V_load rfl rfl ag_38 (CellAt.item rfl)) ?_ | refine GT_st rfl rfl rfl rfl (V_load rfl rfl ag_38 (CellAt.old (hs.cell rfl) (noM _))) ?_
                  refine GT_st rfl rfl rfl rfl (V_move rfl rfl) ?_
                  refine GT_st rfl rfl rfl rfl (V_index rfl rfl rfl Tryz.underlying38 sz_2 (k := i) rfl (by omega) (hOr1.isSome (k := i) (by omega))) ?_
                  refine GT_st rfl rfl rfl rfl (V_load rfl rfl ag_2 (CellAt.own0 hOr1 eI_len (by omega) rfl)) ?_
                  first | refine GT_st rfl rfl rfl rfl (V_field rfl rfl fo_72_3) ?_ | refine GT_st rfl rfl rfl rfl (V_fieldA rfl rfl fo_72_3) ?_
                  first | refine GT_st rfl rfl rfl rfl (V_load rfl rfl ag_2 (CellAt.item rfl)) ?_ | refine GT_st rfl rfl rfl rfl (V_load rfl rfl ag_2 (CellAt.old (hs.cell rfl) (noM _))) ?_
                  refine GT_st rfl rfl rfl rfl (V_add rfl rfl rfl (wrap_i64 (by omega))) ?_
                  refine GT_st rfl rfl rfl rfl (V_lss rfl rfl rfl) ?_
                  refine GT_nil ?_
                  first | refine GE_condNot rfl (fun h6 => ?_) (fun h6 => ?_) | refine GE_cond rfl (fun h6 => ?_) (fun h6 => ?_) | refine GE_condNotB rfl (fun h6 => ?_) (fun h6 => ?_) | refine GE_condB rfl (fun h6 => ?_) (fun h6 => ?_)
                  · obtain ⟨m, hm8, hway⟩ := settled_way hb hpb hl hch (v := i) ⟨by omega, by omega⟩; have hef : (edgeOf b l 2 i).1.frm = i := (by rw [edgeOf_two ⟨by omega, by omega⟩])
                    refine GE_seq ?_
                    refine GE_slots (L' := [(2, _), (5, _), (11, _)]) ⟨rfl, rfl, rfl, trivial⟩ ?_
                    refine GE_plain (.st 0 (.st 1 (.ld 2 [] (.st 3 (.ld 4 [] .nil))))) rfl ?_
                    first | refine GT_st rfl rfl rfl rfl (V_load rfl rfl ag_103 (CellAt.item rfl)) ?_ | refine GT_st rfl rfl rfl rfl (V_load rfl rfl ag_103 (CellAt.old (hs.cell rfl) (noM _))) ?_
                    refine GT_st rfl rfl rfl rfl (V_loadN (vs := [_, _, _, _, _]) rfl rfl ag_72 sz_72 rfl (CellsAt.item rfl)) ?_
                    refine GT_call rfl rfl rfl rfl rfl rfl rfl rfl rn_35 (fun w hw => C_lathe_way (m := m) (x := (edgeOf b l 2 i).1) hll1.symm (hOl1.rdH eEdge_len hw) (fun j hj => by rw [hef, hll1]; exact hway.ins j hj) (by rw [hef]; exact hway.rim) hm8) (fun _ _ => GR_nil) (fun x111 hx111 => ?_)
                    refine GT_st rfl rfl rfl rfl (V_build (vs := [_, _]) rfl rfl zc_63 pl_63 sa_63 rfl) ?_
                    refine GT_store (vs := [_, _]) (l' := [_, _]) rfl rfl rfl rfl rfl rfl rfl sz_63 rfl rfl (Nat.le_of_ble_eq_true rfl) rfl (GR_nil) ?_
                    refine GT_nil ?_
                    refine GE_retq Tryz.func17 ⟨_, rfl, fun w m => run_loadVar_agg (vs := [_, _]) ag_63 sz_63 rfl (fun j v hj => CellsAt.item rfl j v hj w m)⟩ (fun w hw => ?_)
                    exact ⟨([], (wsteps (settled b l).last (edgeOf b l 2 i).1 m).reverse, (none, 0, []), x111), ⟨.inr (.inl ⟨hch, rfl, i, by omega, h6, m, hway, rfl⟩), Own.nil, by dsimp only; rw [List.length_reverse]; exact hx111⟩, by dsimp only; rw [List.length_reverse]; rfl, hw.hs (HS.chunk (I := []) HS.last)⟩
                  · skip
                    refine GE_skip ?_
                    refine GE_inBlock ?_
                    refine GE_slots (L' := [(0, _), (2, _), (4, _), (5, _), (91, _), (92, _)]) ⟨rfl, rfl, rfl, rfl, rfl, rfl, trivial⟩ ?_
                    refine GE_plain (.st 0 (.ld 1 [] .nil)) rfl ?_
                    refine GT_st rfl rfl rfl rfl (V_add rfl rfl rfl (wrap_i64 (by omega))) ?_
                    refine GT_ldv rfl rfl rfl rfl rfl (V_move rfl rfl) (GR_nil) ?_
                    refine GT_nil ?_
                    exact GE_to (ih3 (i + 1) ⟨by omega, fun q hq => by rcases Nat.lt_or_ge q i with h | h; exact hiq q h; obtain rfl : q = i := (by omega); omega⟩ (by omega)) ⟨rfl, rfl, rfl, rfl, rfl, rfl, trivial⟩ (HS.chunk (HS.chunk (HS.chunk (HS.cons rfl (HS.cons rfl (HS.cons rfl HS.nil))))))
                · obtain rfl : i = l.length := (by omega)
                  refine GE_exit rfl ?_
                  refine GE_seq ?_
                  refine GE_slots (L' := [(2, _), (4, _)]) ⟨rfl, rfl, trivial⟩ ?_
                  refine GE_plain (.st 0 (.st 1 (.ld 2 [] .nil))) rfl ?_
                  first | refine GT_st rfl rfl rfl rfl (V_load rfl rfl ag_38 (CellAt.item rfl)) ?_ | refine GT_st rfl rfl rfl rfl (V_load rfl rfl ag_38 (CellAt.old (hs.cell rfl) (noM _))) ?_
                  refine GT_st rfl rfl rfl rfl (V_build (vs := [_, _]) rfl rfl zc_63 pl_63 sa_63 rfl) ?_
                  refine GT_store (vs := [_, _]) (l' := [_, _]) rfl rfl rfl rfl rfl rfl rfl sz_63 rfl rfl (Nat.le_of_ble_eq_true rfl) rfl (GR_nil) ?_
                  refine GT_nil ?_
                  refine GE_retq Tryz.func17 ⟨_, rfl, fun w m => run_loadVar_agg (vs := [_, _]) ag_63 sz_63 rfl (fun j v hj => CellsAt.item rfl j v hj w m)⟩ (fun w hw => ?_)
                  exact ⟨((settled b l).r, [], (some ⟨br, 0, none⟩, l.length, Ir1), (none, 0, [])), ⟨.inr (.inr ⟨hch, rfl, rfl, hiq⟩), by dsimp only; rw [hrl1]; exact hOr1, Own.nil⟩, by dsimp only; rw [hrl1]; rfl, hw.hs (HS.chunk HS.nil)⟩
              · exact ⟨Nat.zero_le _, fun q hq => absurd hq (Nat.not_lt_zero _)⟩
            · skip
              refine GE_skip ?_
              refine GE_seq ?_
              refine GE_slots (L' := [(0, _), (2, _), (3, _), (4, _), (5, _), (7, _), (8, _)]) ⟨rfl, rfl, rfl, rfl, rfl, rfl, rfl, trivial⟩ ?_
              refine GE_plain (.st 0 (.st 1 (.st 2 .nil))) rfl ?_
              refine GT_st rfl rfl rfl rfl (V_move rfl rfl) ?_
              refine GT_st rfl rfl rfl rfl (V_move rfl rfl) ?_
              refine GT_st rfl rfl rfl rfl (V_gtr rfl rfl rfl) ?_
              refine GT_nil ?_
              first | refine GE_condNot rfl (fun hkn => ?_) (fun hkn => ?_) | refine GE_cond rfl (fun hkn => ?_) (fun hkn => ?_) | refine GE_condNotB rfl (fun hkn => ?_) (fun hkn => ?_) | refine GE_condB rfl (fun hkn => ?_) (fun hkn => ?_)
              · have hset1 : settled b l = round b l r last := (by rw [← hset, show l.length + 2 - k = 1 by omega, rounds_last]); rw [← hset1] at hOr1 hOl1 hrl1 hll1 hch ⊢; rw [hll] at hll1; have hll1' := hll1; obtain ⟨hins, m, hm0, hmn, hmb⟩ := settled_circle hb hpb hch
                refine GE_seq ?_
                refine GE_slots (L' := [(2, _), (5, _), (8, _)]) ⟨rfl, rfl, rfl, trivial⟩ ?_
                refine GE_plain (.st 0 (.st 1 (.ld 2 [] (.st 3 (.ld 4 [] .nil))))) rfl ?_
                first | refine GT_st rfl rfl rfl rfl (V_load rfl rfl ag_103 (CellAt.item rfl)) ?_ | refine GT_st rfl rfl rfl rfl (V_load rfl rfl ag_103 (CellAt.old (hs.cell rfl) (noM _))) ?_
                first | refine GT_st rfl rfl rfl rfl (V_load rfl rfl ag_3 (CellAt.item rfl)) ?_ | refine GT_st rfl rfl rfl rfl (V_load rfl rfl ag_3 (CellAt.old (hs.cell rfl) (noM _))) ?_
                refine GT_call rfl rfl rfl rfl rfl rfl rfl rfl rn_34 (fun w hw => C_lathe_circle hll1.symm (hOl1.rdH eEdge_len hw) (fun i => by rw [hll1]; exact hins i) (by omega) hm0 (by rw [hll1]; exact hmb) (by omega) (fun i => by rw [hll1, ← back_add]; exact hins _)) (fun _ _ => GR_nil) (fun x89 hx89 => ?_)
                rw [hll1] at hx89 ⊢
                refine GT_st rfl rfl rfl rfl (V_build (vs := [_, _]) rfl rfl zc_63 pl_63 sa_63 rfl) ?_
                refine GT_store (vs := [_, _]) (l' := [_, _]) rfl rfl rfl rfl rfl rfl rfl sz_63 rfl rfl (Nat.le_of_ble_eq_true rfl) rfl (GR_nil) ?_
                refine GT_nil ?_
                refine GE_retq Tryz.func17 ⟨_, rfl, fun w m => run_loadVar_agg (vs := [_, _]) ag_63 sz_63 rfl (fun j v hj => CellsAt.item rfl j v hj w m)⟩ (fun w hw => ?_)
                exact ⟨([], (csteps (settled b l).last (back (settled b l).last l.length (settled b l).ch) x89.1).reverse, (none, 0, []), (x89.2.1, x89.2.2.1, x89.2.2.2)), ⟨.inl ⟨hch, rfl, _, hx89.1, rfl⟩, Own.nil, by dsimp only; rw [List.length_reverse]; exact hx89.2⟩, by dsimp only; rw [List.length_reverse]; rfl, hw.hs (HS.chunk (I := []) HS.last)⟩
              · have hset1 : rounds b l (l.length + 2 - (k + 1)) (round b l r last).r (round b l r last).last = settled b l := (by rw [← hset, show l.length + 2 - k = (l.length + 2 - (k + 1)) + 1 by omega, rounds_go hch (by omega)])
                refine GE_skip ?_
                refine GE_inScope ?_
                refine GE_inBlock ?_
                refine GE_slots (L' := [(0, _), (2, _), (3, _), (4, _), (5, _), (7, _)]) ⟨rfl, rfl, rfl, rfl, rfl, rfl, trivial⟩ ?_
                refine GE_plain (.st 0 (.st 1 (.ld 2 [] .nil))) rfl ?_
                refine GT_st rfl rfl rfl rfl (V_move rfl rfl) ?_
                refine GT_st rfl rfl rfl rfl (V_add rfl rfl rfl (wrap_i64 (by omega))) ?_
                refine GT_ldv rfl rfl rfl rfl rfl (V_assign rfl rfl) (GR_nil) ?_
                refine GT_nil ?_
                exact GE_to (ih (k + 1, (round b l r last).r, (round b l r last).last, Ir1, Il1, q :: qs) ⟨by dsimp only; omega, by dsimp only; rw [hrl1, hrl], by dsimp only; rw [hll1, hll], (fun q hq => by have := hbd1 q hq; dsimp only at this ⊢; push_cast; omega), hOr1, hOl1, hset1⟩ (by dsimp only; omega)) ⟨rfl, rfl, rfl, rfl, rfl, rfl, trivial⟩ (HS.chunk (HS.chunk (HS.chunk (HS.cons rfl (HS.cons rfl (HS.cons rfl HS.nil))))))
        · exact ⟨Nat.zero_le _, start_length b l, rimEdges_length b l, hbd0, hOr, hOl, rfl⟩
    · refine ⟨Nat.zero_le _, by simp, by simp, fun q hq => absurd hq (Nat.not_lt_zero _), fun q hq => absurd hq (Nat.not_lt_zero _), Own.made (x := (0 : Int)) rfl (Nat.le_trans hl (by decide)), Own.made (x := (⟨0, 0, 0, 0, 0⟩ : Edge)) rfl (Nat.le_trans hl (by decide))⟩
  · skip
    refine GE_slots (L' := [(0, _), (2, _), (3, _)]) ⟨rfl, rfl, rfl, trivial⟩ ?_
    refine GE_drawn (.st 0 (.st 2 (.br (.ld 1 [2] (.br (.ld 3 [0] (.br (.ld 4 [0, 2] (.ld 5 [0, 2] (.ld 6 [2] (.ld 7 [] .nil)))) (.ld 5 [0, 2] (.ld 4 [0, 2] (.ld 6 [2] (.ld 7 [] .nil)))))) (.br (.ld 4 [0, 2] (.br (.ld 3 [0] (.ld 5 [0, 2] (.ld 6 [2] (.ld 7 [] .nil)))) (.ld 5 [0, 2] (.br (.ld 3 [0] (.ld 6 [2] (.ld 7 [] .nil))) (.ld 6 [2] (.ld 3 [0] (.ld 7 [] .nil))))))) (.ld 5 [0, 2] (.br (.ld 3 [0] (.ld 4 [0, 2] (.ld 6 [2] (.ld 7 [] .nil)))) (.ld 4 [0, 2] (.br (.ld 3 [0] (.ld 6 [2] (.ld 7 [] .nil))) (.ld 6 [2] (.ld 3 [0] (.ld 7 [] .nil)))))))))) (.br (.ld 3 [0] (.br (.ld 1 [2] (.br (.ld 4 [0, 2] (.ld 5 [0, 2] (.ld 6 [2] (.ld 7 [] .nil)))) (.ld 5 [0, 2] (.ld 4 [0, 2] (.ld 6 [2] (.ld 7 [] .nil)))))) (.br (.ld 4 [0, 2] (.br (.ld 1 [2] (.ld 5 [0, 2] (.ld 6 [2] (.ld 7 [] .nil)))) (.ld 5 [0, 2] (.ld 1 [2] (.ld 6 [2] (.ld 7 [] .nil)))))) (.ld 5 [0, 2] (.br (.ld 1 [2] (.ld 4 [0, 2] (.ld 6 [2] (.ld 7 [] .nil)))) (.ld 4 [0, 2] (.ld 1 [2] (.ld 6 [2] (.ld 7 [] .nil))))))))) (.br (.ld 4 [0, 2] (.br (.ld 1 [2] (.br (.ld 3 [0] (.ld 5 [0, 2] (.ld 6 [2] (.ld 7 [] .nil)))) (.ld 5 [0, 2] (.br (.ld 3 [0] (.ld 6 [2] (.ld 7 [] .nil))) (.ld 6 [2] (.ld 3 [0] (.ld 7 [] .nil))))))) (.br (.ld 3 [0] (.br (.ld 1 [2] (.ld 5 [0, 2] (.ld 6 [2] (.ld 7 [] .nil)))) (.ld 5 [0, 2] (.ld 1 [2] (.ld 6 [2] (.ld 7 [] .nil)))))) (.ld 5 [0, 2] (.br (.ld 1 [2] (.br (.ld 3 [0] (.ld 6 [2] (.ld 7 [] .nil))) (.ld 6 [2] (.ld 3 [0] (.ld 7 [] .nil))))) (.ld 3 [0] (.ld 1 [2] (.ld 6 [2] (.ld 7 [] .nil))))))))) (.ld 5 [0, 2] (.br (.ld 1 [2] (.br (.ld 3 [0] (.ld 4 [0, 2] (.ld 6 [2] (.ld 7 [] .nil)))) (.ld 4 [0, 2] (.br (.ld 3 [0] (.ld 6 [2] (.ld 7 [] .nil))) (.ld 6 [2] (.ld 3 [0] (.ld 7 [] .nil))))))) (.br (.ld 3 [0] (.br (.ld 1 [2] (.ld 4 [0, 2] (.ld 6 [2] (.ld 7 [] .nil)))) (.ld 4 [0, 2] (.ld 1 [2] (.ld 6 [2] (.ld 7 [] .nil)))))) (.ld 4 [0, 2] (.br (.ld 1 [2] (.br (.ld 3 [0] (.ld 6 [2] (.ld 7 [] .nil))) (.ld 6 [2] (.ld 3 [0] (.ld 7 [] .nil))))) (.ld 3 [0] (.ld 1 [2] (.ld 6 [2] (.ld 7 [] .nil)))))))))))))) [1, 3, 4, 5, 6, 7] (by decide +kernel) ?_
    refine GT_st rfl rfl rfl rfl (V_move rfl rfl) ?_
    refine GT_st rfl rfl rfl rfl (V_move rfl rfl) ?_
    refine GT_br ?_ ?_
    · skip
      refine GT_makeSlice rfl rfl rfl rfl rfl rfl rfl Tryz.underlying38 zc_2 sz_2 by_2 ⟨rfl, rfl, rfl⟩ ⟨by omega, by omega⟩ (fun _ => GR_cons rfl rfl rfl rfl (V_move rfl rfl) (GR_nil)) (fun b19 => ?_)
      refine GT_br ?_ ?_
      · skip
        refine GT_makeSlice rfl rfl rfl rfl rfl rfl rfl Tryz.underlying103 zc_72 sz_72 by_72 ⟨rfl, rfl, rfl⟩ ⟨by omega, by omega⟩ (fun _ => GR_cons rfl rfl rfl rfl (V_move rfl rfl) (GR_nil)) (fun b21 => ?_)
        refine GT_br ?_ ?_
        · skip
          refine GT_alloc rfl rfl rfl rfl rfl zc_38 (fun _ => GR_cons rfl rfl rfl rfl (V_move rfl rfl) (GR_cons rfl rfl rfl rfl (V_move rfl rfl) (GR_nil))) (fun b4 => ?_)
          refine GT_alloc rfl rfl rfl rfl rfl zc_103 (fun _ => GR_cons rfl rfl rfl rfl (V_move rfl rfl) (GR_cons rfl rfl rfl rfl (V_move rfl rfl) (GR_nil))) (fun b5 => ?_)
          refine GT_store (vs := [_]) (l' := [_]) rfl rfl rfl rfl rfl rfl rfl sz_38 rfl rfl (Nat.le_of_ble_eq_true rfl) rfl (GR_cons rfl rfl rfl rfl (V_move rfl rfl) (GR_nil)) ?_
          refine GT_store (vs := [_]) (l' := [_]) rfl rfl rfl rfl rfl rfl rfl sz_103 rfl rfl (Nat.le_of_ble_eq_true rfl) rfl (GR_nil) ?_
          refine GT_nil ?_
          exact GE_to (hk (b2, b4, b5, b19, b21) trivial) ⟨rfl, rfl, rfl, rfl, rfl, trivial⟩ (HS.cons rfl (HS.cons rfl (HS.cons rfl (HS.cons rfl (HS.cons rfl HS.nil)))))
        · skip
          refine GT_alloc rfl rfl rfl rfl rfl zc_103 (fun _ => GR_cons rfl rfl rfl rfl (V_move rfl rfl) (GR_cons rfl rfl rfl rfl (V_move rfl rfl) (GR_nil))) (fun b5 => ?_)
          refine GT_alloc rfl rfl rfl rfl rfl zc_38 (fun _ => GR_cons rfl rfl rfl rfl (V_move rfl rfl) (GR_cons rfl rfl rfl rfl (V_move rfl rfl) (GR_nil))) (fun b4 => ?_)
          refine GT_store (vs := [_]) (l' := [_]) rfl rfl rfl rfl rfl rfl rfl sz_38 rfl rfl (Nat.le_of_ble_eq_true rfl) rfl (GR_cons rfl rfl rfl rfl (V_move rfl rfl) (GR_nil)) ?_
          refine GT_store (vs := [_]) (l' := [_]) rfl rfl rfl rfl rfl rfl rfl sz_103 rfl rfl (Nat.le_of_ble_eq_true rfl) rfl (GR_nil) ?_
          refine GT_nil ?_
          exact GE_to (hk (b2, b4, b5, b19, b21) trivial) ⟨rfl, rfl, rfl, rfl, rfl, trivial⟩ (HS.cons rfl (HS.cons rfl (HS.cons rfl (HS.cons rfl (HS.cons rfl HS.nil)))))
      · skip
        refine GT_br ?_ ?_
        · skip
          refine GT_alloc rfl rfl rfl rfl rfl zc_38 (fun _ => GR_cons rfl rfl rfl rfl (V_move rfl rfl) (GR_cons rfl rfl rfl rfl (V_move rfl rfl) (GR_nil))) (fun b4 => ?_)
          refine GT_br ?_ ?_
          · skip
            refine GT_makeSlice rfl rfl rfl rfl rfl rfl rfl Tryz.underlying103 zc_72 sz_72 by_72 ⟨rfl, rfl, rfl⟩ ⟨by omega, by omega⟩ (fun _ => GR_cons rfl rfl rfl rfl (V_move rfl rfl) (GR_nil)) (fun b21 => ?_)
            refine GT_alloc rfl rfl rfl rfl rfl zc_103 (fun _ => GR_cons rfl rfl rfl rfl (V_move rfl rfl) (GR_cons rfl rfl rfl rfl (V_move rfl rfl) (GR_nil))) (fun b5 => ?_)
            refine GT_store (vs := [_]) (l' := [_]) rfl rfl rfl rfl rfl rfl rfl sz_38 rfl rfl (Nat.le_of_ble_eq_true rfl) rfl (GR_cons rfl rfl rfl rfl (V_move rfl rfl) (GR_nil)) ?_
            refine GT_store (vs := [_]) (l' := [_]) rfl rfl rfl rfl rfl rfl rfl sz_103 rfl rfl (Nat.le_of_ble_eq_true rfl) rfl (GR_nil) ?_
            refine GT_nil ?_
            exact GE_to (hk (b2, b4, b5, b19, b21) trivial) ⟨rfl, rfl, rfl, rfl, rfl, trivial⟩ (HS.cons rfl (HS.cons rfl (HS.cons rfl (HS.cons rfl (HS.cons rfl HS.nil)))))
          · skip
            refine GT_alloc rfl rfl rfl rfl rfl zc_103 (fun _ => GR_cons rfl rfl rfl rfl (V_move rfl rfl) (GR_cons rfl rfl rfl rfl (V_move rfl rfl) (GR_nil))) (fun b5 => ?_)
            refine GT_br ?_ ?_
            · skip
              refine GT_makeSlice rfl rfl rfl rfl rfl rfl rfl Tryz.underlying103 zc_72 sz_72 by_72 ⟨rfl, rfl, rfl⟩ ⟨by omega, by omega⟩ (fun _ => GR_cons rfl rfl rfl rfl (V_move rfl rfl) (GR_nil)) (fun b21 => ?_)
              refine GT_store (vs := [_]) (l' := [_]) rfl rfl rfl rfl rfl rfl rfl sz_38 rfl rfl (Nat.le_of_ble_eq_true rfl) rfl (GR_cons rfl rfl rfl rfl (V_move rfl rfl) (GR_nil)) ?_
              refine GT_store (vs := [_]) (l' := [_]) rfl rfl rfl rfl rfl rfl rfl sz_103 rfl rfl (Nat.le_of_ble_eq_true rfl) rfl (GR_nil) ?_
              refine GT_nil ?_
              exact GE_to (hk (b2, b4, b5, b19, b21) trivial) ⟨rfl, rfl, rfl, rfl, rfl, trivial⟩ (HS.cons rfl (HS.cons rfl (HS.cons rfl (HS.cons rfl (HS.cons rfl HS.nil)))))
            · skip
              refine GT_store (vs := [_]) (l' := [_]) rfl rfl rfl rfl rfl rfl rfl sz_38 rfl rfl (Nat.le_of_ble_eq_true rfl) rfl (GR_cons rfl rfl rfl rfl (V_move rfl rfl) (GR_nil)) ?_
              refine GT_makeSlice rfl rfl rfl rfl rfl rfl rfl Tryz.underlying103 zc_72 sz_72 by_72 ⟨rfl, rfl, rfl⟩ ⟨by omega, by omega⟩ (fun _ => GR_cons rfl rfl rfl rfl (V_move rfl rfl) (GR_nil)) (fun b21 => ?_)
              refine GT_store (vs := [_]) (l' := [_]) rfl rfl rfl rfl rfl rfl rfl sz_103 rfl rfl (Nat.le_of_ble_eq_true rfl) rfl (GR_nil) ?_
              refine GT_nil ?_
              exact GE_to (hk (b2, b4, b5, b19, b21) trivial) ⟨rfl, rfl, rfl, rfl, rfl, trivial⟩ (HS.cons rfl (HS.cons rfl (HS.cons rfl (HS.cons rfl (HS.cons rfl HS.nil)))))
        · skip
          refine GT_alloc rfl rfl rfl rfl rfl zc_103 (fun _ => GR_cons rfl rfl rfl rfl (V_move rfl rfl) (GR_cons rfl rfl rfl rfl (V_move rfl rfl) (GR_nil))) (fun b5 => ?_)
          refine GT_br ?_ ?_
          · skip
            refine GT_makeSlice rfl rfl rfl rfl rfl rfl rfl Tryz.underlying103 zc_72 sz_72 by_72 ⟨rfl, rfl, rfl⟩ ⟨by omega, by omega⟩ (fun _ => GR_cons rfl rfl rfl rfl (V_move rfl rfl) (GR_nil)) (fun b21 => ?_)
            refine GT_alloc rfl rfl rfl rfl rfl zc_38 (fun _ => GR_cons rfl rfl rfl rfl (V_move rfl rfl) (GR_cons rfl rfl rfl rfl (V_move rfl rfl) (GR_nil))) (fun b4 => ?_)
            refine GT_store (vs := [_]) (l' := [_]) rfl rfl rfl rfl rfl rfl rfl sz_38 rfl rfl (Nat.le_of_ble_eq_true rfl) rfl (GR_cons rfl rfl rfl rfl (V_move rfl rfl) (GR_nil)) ?_
            refine GT_store (vs := [_]) (l' := [_]) rfl rfl rfl rfl rfl rfl rfl sz_103 rfl rfl (Nat.le_of_ble_eq_true rfl) rfl (GR_nil) ?_
            refine GT_nil ?_
            exact GE_to (hk (b2, b4, b5, b19, b21) trivial) ⟨rfl, rfl, rfl, rfl, rfl, trivial⟩ (HS.cons rfl (HS.cons rfl (HS.cons rfl (HS.cons rfl (HS.cons rfl HS.nil)))))
          · skip
            refine GT_alloc rfl rfl rfl rfl rfl zc_38 (fun _ => GR_cons rfl rfl rfl rfl (V_move rfl rfl) (GR_cons rfl rfl rfl rfl (V_move rfl rfl) (GR_nil))) (fun b4 => ?_)
            refine GT_br ?_ ?_
            · skip
              refine GT_makeSlice rfl rfl rfl rfl rfl rfl rfl Tryz.underlying103 zc_72 sz_72 by_72 ⟨rfl, rfl, rfl⟩ ⟨by omega, by omega⟩ (fun _ => GR_cons rfl rfl rfl rfl (V_move rfl rfl) (GR_nil)) (fun b21 => ?_)
              refine GT_store (vs := [_]) (l' := [_]) rfl rfl rfl rfl rfl rfl rfl sz_38 rfl rfl (Nat.le_of_ble_eq_true rfl) rfl (GR_cons rfl rfl rfl rfl (V_move rfl rfl) (GR_nil)) ?_
              refine GT_store (vs := [_]) (l' := [_]) rfl rfl rfl rfl rfl rfl rfl sz_103 rfl rfl (Nat.le_of_ble_eq_true rfl) rfl (GR_nil) ?_
              refine GT_nil ?_
              exact GE_to (hk (b2, b4, b5, b19, b21) trivial) ⟨rfl, rfl, rfl, rfl, rfl, trivial⟩ (HS.cons rfl (HS.cons rfl (HS.cons rfl (HS.cons rfl (HS.cons rfl HS.nil)))))
            · skip
              refine GT_store (vs := [_]) (l' := [_]) rfl rfl rfl rfl rfl rfl rfl sz_38 rfl rfl (Nat.le_of_ble_eq_true rfl) rfl (GR_cons rfl rfl rfl rfl (V_move rfl rfl) (GR_nil)) ?_
              refine GT_makeSlice rfl rfl rfl rfl rfl rfl rfl Tryz.underlying103 zc_72 sz_72 by_72 ⟨rfl, rfl, rfl⟩ ⟨by omega, by omega⟩ (fun _ => GR_cons rfl rfl rfl rfl (V_move rfl rfl) (GR_nil)) (fun b21 => ?_)
              refine GT_store (vs := [_]) (l' := [_]) rfl rfl rfl rfl rfl rfl rfl sz_103 rfl rfl (Nat.le_of_ble_eq_true rfl) rfl (GR_nil) ?_
              refine GT_nil ?_
              exact GE_to (hk (b2, b4, b5, b19, b21) trivial) ⟨rfl, rfl, rfl, rfl, rfl, trivial⟩ (HS.cons rfl (HS.cons rfl (HS.cons rfl (HS.cons rfl (HS.cons rfl HS.nil)))))
    · skip
      refine GT_br ?_ ?_
      · skip
        refine GT_makeSlice rfl rfl rfl rfl rfl rfl rfl Tryz.underlying103 zc_72 sz_72 by_72 ⟨rfl, rfl, rfl⟩ ⟨by omega, by omega⟩ (fun _ => GR_cons rfl rfl rfl rfl (V_move rfl rfl) (GR_nil)) (fun b21 => ?_)
        refine GT_br ?_ ?_
        · skip
          refine GT_makeSlice rfl rfl rfl rfl rfl rfl rfl Tryz.underlying38 zc_2 sz_2 by_2 ⟨rfl, rfl, rfl⟩ ⟨by omega, by omega⟩ (fun _ => GR_cons rfl rfl rfl rfl (V_move rfl rfl) (GR_nil)) (fun b19 => ?_)
          refine GT_br ?_ ?_
          · skip
            refine GT_alloc rfl rfl rfl rfl rfl zc_38 (fun _ => GR_cons rfl rfl rfl rfl (V_move rfl rfl) (GR_cons rfl rfl rfl rfl (V_move rfl rfl) (GR_nil))) (fun b4 => ?_)
            refine GT_alloc rfl rfl rfl rfl rfl zc_103 (fun _ => GR_cons rfl rfl rfl rfl (V_move rfl rfl) (GR_cons rfl rfl rfl rfl (V_move rfl rfl) (GR_nil))) (fun b5 => ?_)
            refine GT_store (vs := [_]) (l' := [_]) rfl rfl rfl rfl rfl rfl rfl sz_38 rfl rfl (Nat.le_of_ble_eq_true rfl) rfl (GR_cons rfl rfl rfl rfl (V_move rfl rfl) (GR_nil)) ?_
            refine GT_store (vs := [_]) (l' := [_]) rfl rfl rfl rfl rfl rfl rfl sz_103 rfl rfl (Nat.le_of_ble_eq_true rfl) rfl (GR_nil) ?_
            refine GT_nil ?_
            exact GE_to (hk (b2, b4, b5, b19, b21) trivial) ⟨rfl, rfl, rfl, rfl, rfl, trivial⟩ (HS.cons rfl (HS.cons rfl (HS.cons rfl (HS.cons rfl (HS.cons rfl HS.nil)))))
          · skip
            refine GT_alloc rfl rfl rfl rfl rfl zc_103 (fun _ => GR_cons rfl rfl rfl rfl (V_move rfl rfl) (GR_cons rfl rfl rfl rfl (V_move rfl rfl) (GR_nil))) (fun b5 => ?_)
            refine GT_alloc rfl rfl rfl rfl rfl zc_38 (fun _ => GR_cons rfl rfl rfl rfl (V_move rfl rfl) (GR_cons rfl rfl rfl rfl (V_move rfl rfl) (GR_nil))) (fun b4 => ?_)
            refine GT_store (vs := [_]) (l' := [_]) rfl rfl rfl rfl rfl rfl rfl sz_38 rfl rfl (Nat.le_of_ble_eq_true rfl) rfl (GR_cons rfl rfl rfl rfl (V_move rfl rfl) (GR_nil)) ?_
            refine GT_store (vs := [_]) (l' := [_]) rfl rfl rfl rfl rfl rfl rfl sz_103 rfl rfl (Nat.le_of_ble_eq_true rfl) rfl (GR_nil) ?_
            refine GT_nil ?_
            exact GE_to (hk (b2, b4, b5, b19, b21) trivial) ⟨rfl, rfl, rfl, rfl, rfl, trivial⟩ (HS.cons rfl (HS.cons rfl (HS.cons rfl (HS.cons rfl (HS.cons rfl HS.nil)))))
        · skip
          refine GT_br ?_ ?_
          · skip
            refine GT_alloc rfl rfl rfl rfl rfl zc_38 (fun _ => GR_cons rfl rfl rfl rfl (V_move rfl rfl) (GR_cons rfl rfl rfl rfl (V_move rfl rfl) (GR_nil))) (fun b4 => ?_)
            refine GT_br ?_ ?_
            · skip
              refine GT_makeSlice rfl rfl rfl rfl rfl rfl rfl Tryz.underlying38 zc_2 sz_2 by_2 ⟨rfl, rfl, rfl⟩ ⟨by omega, by omega⟩ (fun _ => GR_cons rfl rfl rfl rfl (V_move rfl rfl) (GR_nil)) (fun b19 => ?_)
              refine GT_alloc rfl rfl rfl rfl rfl zc_103 (fun _ => GR_cons rfl rfl rfl rfl (V_move rfl rfl) (GR_cons rfl rfl rfl rfl (V_move rfl rfl) (GR_nil))) (fun b5 => ?_)
              refine GT_store (vs := [_]) (l' := [_]) rfl rfl rfl rfl rfl rfl rfl sz_38 rfl rfl (Nat.le_of_ble_eq_true rfl) rfl (GR_cons rfl rfl rfl rfl (V_move rfl rfl) (GR_nil)) ?_
              refine GT_store (vs := [_]) (l' := [_]) rfl rfl rfl rfl rfl rfl rfl sz_103 rfl rfl (Nat.le_of_ble_eq_true rfl) rfl (GR_nil) ?_
              refine GT_nil ?_
              exact GE_to (hk (b2, b4, b5, b19, b21) trivial) ⟨rfl, rfl, rfl, rfl, rfl, trivial⟩ (HS.cons rfl (HS.cons rfl (HS.cons rfl (HS.cons rfl (HS.cons rfl HS.nil)))))
            · skip
              refine GT_alloc rfl rfl rfl rfl rfl zc_103 (fun _ => GR_cons rfl rfl rfl rfl (V_move rfl rfl) (GR_cons rfl rfl rfl rfl (V_move rfl rfl) (GR_nil))) (fun b5 => ?_)
              refine GT_makeSlice rfl rfl rfl rfl rfl rfl rfl Tryz.underlying38 zc_2 sz_2 by_2 ⟨rfl, rfl, rfl⟩ ⟨by omega, by omega⟩ (fun _ => GR_cons rfl rfl rfl rfl (V_move rfl rfl) (GR_nil)) (fun b19 => ?_)
              refine GT_store (vs := [_]) (l' := [_]) rfl rfl rfl rfl rfl rfl rfl sz_38 rfl rfl (Nat.le_of_ble_eq_true rfl) rfl (GR_cons rfl rfl rfl rfl (V_move rfl rfl) (GR_nil)) ?_
              refine GT_store (vs := [_]) (l' := [_]) rfl rfl rfl rfl rfl rfl rfl sz_103 rfl rfl (Nat.le_of_ble_eq_true rfl) rfl (GR_nil) ?_
              refine GT_nil ?_
              exact GE_to (hk (b2, b4, b5, b19, b21) trivial) ⟨rfl, rfl, rfl, rfl, rfl, trivial⟩ (HS.cons rfl (HS.cons rfl (HS.cons rfl (HS.cons rfl (HS.cons rfl HS.nil)))))
          · skip
            refine GT_alloc rfl rfl rfl rfl rfl zc_103 (fun _ => GR_cons rfl rfl rfl rfl (V_move rfl rfl) (GR_cons rfl rfl rfl rfl (V_move rfl rfl) (GR_nil))) (fun b5 => ?_)
            refine GT_br ?_ ?_
            · skip
              refine GT_makeSlice rfl rfl rfl rfl rfl rfl rfl Tryz.underlying38 zc_2 sz_2 by_2 ⟨rfl, rfl, rfl⟩ ⟨by omega, by omega⟩ (fun _ => GR_cons rfl rfl rfl rfl (V_move rfl rfl) (GR_nil)) (fun b19 => ?_)
              refine GT_alloc rfl rfl rfl rfl rfl zc_38 (fun _ => GR_cons rfl rfl rfl rfl (V_move rfl rfl) (GR_cons rfl rfl rfl rfl (V_move rfl rfl) (GR_nil))) (fun b4 => ?_)
              refine GT_store (vs := [_]) (l' := [_]) rfl rfl rfl rfl rfl rfl rfl sz_38 rfl rfl (Nat.le_of_ble_eq_true rfl) rfl (GR_cons rfl rfl rfl rfl (V_move rfl rfl) (GR_nil)) ?_
              refine GT_store (vs := [_]) (l' := [_]) rfl rfl rfl rfl rfl rfl rfl sz_103 rfl rfl (Nat.le_of_ble_eq_true rfl) rfl (GR_nil) ?_
              refine GT_nil ?_
              exact GE_to (hk (b2, b4, b5, b19, b21) trivial) ⟨rfl, rfl, rfl, rfl, rfl, trivial⟩ (HS.cons rfl (HS.cons rfl (HS.cons rfl (HS.cons rfl (HS.cons rfl HS.nil)))))
            · skip
              refine GT_alloc rfl rfl rfl rfl rfl zc_38 (fun _ => GR_cons rfl rfl rfl rfl (V_move rfl rfl) (GR_cons rfl rfl rfl rfl (V_move rfl rfl) (GR_nil))) (fun b4 => ?_)
              refine GT_makeSlice rfl rfl rfl rfl rfl rfl rfl Tryz.underlying38 zc_2 sz_2 by_2 ⟨rfl, rfl, rfl⟩ ⟨by omega, by omega⟩ (fun _ => GR_cons rfl rfl rfl rfl (V_move rfl rfl) (GR_nil)) (fun b19 => ?_)
              refine GT_store (vs := [_]) (l' := [_]) rfl rfl rfl rfl rfl rfl rfl sz_38 rfl rfl (Nat.le_of_ble_eq_true rfl) rfl (GR_cons rfl rfl rfl rfl (V_move rfl rfl) (GR_nil)) ?_
              refine GT_store (vs := [_]) (l' := [_]) rfl rfl rfl rfl rfl rfl rfl sz_103 rfl rfl (Nat.le_of_ble_eq_true rfl) rfl (GR_nil) ?_
              refine GT_nil ?_
              exact GE_to (hk (b2, b4, b5, b19, b21) trivial) ⟨rfl, rfl, rfl, rfl, rfl, trivial⟩ (HS.cons rfl (HS.cons rfl (HS.cons rfl (HS.cons rfl (HS.cons rfl HS.nil)))))
      · skip
        refine GT_br ?_ ?_
        · skip
          refine GT_alloc rfl rfl rfl rfl rfl zc_38 (fun _ => GR_cons rfl rfl rfl rfl (V_move rfl rfl) (GR_cons rfl rfl rfl rfl (V_move rfl rfl) (GR_nil))) (fun b4 => ?_)
          refine GT_br ?_ ?_
          · skip
            refine GT_makeSlice rfl rfl rfl rfl rfl rfl rfl Tryz.underlying38 zc_2 sz_2 by_2 ⟨rfl, rfl, rfl⟩ ⟨by omega, by omega⟩ (fun _ => GR_cons rfl rfl rfl rfl (V_move rfl rfl) (GR_nil)) (fun b19 => ?_)
            refine GT_br ?_ ?_
            · skip
              refine GT_makeSlice rfl rfl rfl rfl rfl rfl rfl Tryz.underlying103 zc_72 sz_72 by_72 ⟨rfl, rfl, rfl⟩ ⟨by omega, by omega⟩ (fun _ => GR_cons rfl rfl rfl rfl (V_move rfl rfl) (GR_nil)) (fun b21 => ?_)
              refine GT_alloc rfl rfl rfl rfl rfl zc_103 (fun _ => GR_cons rfl rfl rfl rfl (V_move rfl rfl) (GR_cons rfl rfl rfl rfl (V_move rfl rfl) (GR_nil))) (fun b5 => ?_)
              refine GT_store (vs := [_]) (l' := [_]) rfl rfl rfl rfl rfl rfl rfl sz_38 rfl rfl (Nat.le_of_ble_eq_true rfl) rfl (GR_cons rfl rfl rfl rfl (V_move rfl rfl) (GR_nil)) ?_
              refine GT_store (vs := [_]) (l' := [_]) rfl rfl rfl rfl rfl rfl rfl sz_103 rfl rfl (Nat.le_of_ble_eq_true rfl) rfl (GR_nil) ?_
              refine GT_nil ?_
              exact GE_to (hk (b2, b4, b5, b19, b21) trivial) ⟨rfl, rfl, rfl, rfl, rfl, trivial⟩ (HS.cons rfl (HS.cons rfl (HS.cons rfl (HS.cons rfl (HS.cons rfl HS.nil)))))
            · skip
              refine GT_alloc rfl rfl rfl rfl rfl zc_103 (fun _ => GR_cons rfl rfl rfl rfl (V_move rfl rfl) (GR_cons rfl rfl rfl rfl (V_move rfl rfl) (GR_nil))) (fun b5 => ?_)
              refine GT_br ?_ ?_
              · skip
                refine GT_makeSlice rfl rfl rfl rfl rfl rfl rfl Tryz.underlying103 zc_72 sz_72 by_72 ⟨rfl, rfl, rfl⟩ ⟨by omega, by omega⟩ (fun _ => GR_cons rfl rfl rfl rfl (V_move rfl rfl) (GR_nil)) (fun b21 => ?_)
                refine GT_store (vs := [_]) (l' := [_]) rfl rfl rfl rfl rfl rfl rfl sz_38 rfl rfl (Nat.le_of_ble_eq_true rfl) rfl (GR_cons rfl rfl rfl rfl (V_move rfl rfl) (GR_nil)) ?_
                refine GT_store (vs := [_]) (l' := [_]) rfl rfl rfl rfl rfl rfl rfl sz_103 rfl rfl (Nat.le_of_ble_eq_true rfl) rfl (GR_nil) ?_
                refine GT_nil ?_
                exact GE_to (hk (b2, b4, b5, b19, b21) trivial) ⟨rfl, rfl, rfl, rfl, rfl, trivial⟩ (HS.cons rfl (HS.cons rfl (HS.cons rfl (HS.cons rfl (HS.cons rfl HS.nil)))))
              · skip
                refine GT_store (vs := [_]) (l' := [_]) rfl rfl rfl rfl rfl rfl rfl sz_38 rfl rfl (Nat.le_of_ble_eq_true rfl) rfl (GR_cons rfl rfl rfl rfl (V_move rfl rfl) (GR_nil)) ?_
                refine GT_makeSlice rfl rfl rfl rfl rfl rfl rfl Tryz.underlying103 zc_72 sz_72 by_72 ⟨rfl, rfl, rfl⟩ ⟨by omega, by omega⟩ (fun _ => GR_cons rfl rfl rfl rfl (V_move rfl rfl) (GR_nil)) (fun b21 => ?_)
                refine GT_store (vs := [_]) (l' := [_]) rfl rfl rfl rfl rfl rfl rfl sz_103 rfl rfl (Nat.le_of_ble_eq_true rfl) rfl (GR_nil) ?_
                refine GT_nil ?_
                exact GE_to (hk (b2, b4, b5, b19, b21) trivial) ⟨rfl, rfl, rfl, rfl, rfl, trivial⟩ (HS.cons rfl (HS.cons rfl (HS.cons rfl (HS.cons rfl (HS.cons rfl HS.nil)))))
          · skip
            refine GT_br ?_ ?_
            · skip
              refine GT_makeSlice rfl rfl rfl rfl rfl rfl rfl Tryz.underlying103 zc_72 sz_72 by_72 ⟨rfl, rfl, rfl⟩ ⟨by omega, by omega⟩ (fun _ => GR_cons rfl rfl rfl rfl (V_move rfl rfl) (GR_nil)) (fun b21 => ?_)
              refine GT_br ?_ ?_
              · skip
                refine GT_makeSlice rfl rfl rfl rfl rfl rfl rfl Tryz.underlying38 zc_2 sz_2 by_2 ⟨rfl, rfl, rfl⟩ ⟨by omega, by omega⟩ (fun _ => GR_cons rfl rfl rfl rfl (V_move rfl rfl) (GR_nil)) (fun b19 => ?_)
                refine GT_alloc rfl rfl rfl rfl rfl zc_103 (fun _ => GR_cons rfl rfl rfl rfl (V_move rfl rfl) (GR_cons rfl rfl rfl rfl (V_move rfl rfl) (GR_nil))) (fun b5 => ?_)
                refine GT_store (vs := [_]) (l' := [_]) rfl rfl rfl rfl rfl rfl rfl sz_38 rfl rfl (Nat.le_of_ble_eq_true rfl) rfl (GR_cons rfl rfl rfl rfl (V_move rfl rfl) (GR_nil)) ?_
                refine GT_store (vs := [_]) (l' := [_]) rfl rfl rfl rfl rfl rfl rfl sz_103 rfl rfl (Nat.le_of_ble_eq_true rfl) rfl (GR_nil) ?_
                refine GT_nil ?_
                exact GE_to (hk (b2, b4, b5, b19, b21) trivial) ⟨rfl, rfl, rfl, rfl, rfl, trivial⟩ (HS.cons rfl (HS.cons rfl (HS.cons rfl (HS.cons rfl (HS.cons rfl HS.nil)))))
              · skip
                refine GT_alloc rfl rfl rfl rfl rfl zc_103 (fun _ => GR_cons rfl rfl rfl rfl (V_move rfl rfl) (GR_cons rfl rfl rfl rfl (V_move rfl rfl) (GR_nil))) (fun b5 => ?_)
                refine GT_makeSlice rfl rfl rfl rfl rfl rfl rfl Tryz.underlying38 zc_2 sz_2 by_2 ⟨rfl, rfl, rfl⟩ ⟨by omega, by omega⟩ (fun _ => GR_cons rfl rfl rfl rfl (V_move rfl rfl) (GR_nil)) (fun b19 => ?_)
                refine GT_store (vs := [_]) (l' := [_]) rfl rfl rfl rfl rfl rfl rfl sz_38 rfl rfl (Nat.le_of_ble_eq_true rfl) rfl (GR_cons rfl rfl rfl rfl (V_move rfl rfl) (GR_nil)) ?_
                refine GT_store (vs := [_]) (l' := [_]) rfl rfl rfl rfl rfl rfl rfl sz_103 rfl rfl (Nat.le_of_ble_eq_true rfl) rfl (GR_nil) ?_
                refine GT_nil ?_
                exact GE_to (hk (b2, b4, b5, b19, b21) trivial) ⟨rfl, rfl, rfl, rfl, rfl, trivial⟩ (HS.cons rfl (HS.cons rfl (HS.cons rfl (HS.cons rfl (HS.cons rfl HS.nil)))))
            · skip
              refine GT_alloc rfl rfl rfl rfl rfl zc_103 (fun _ => GR_cons rfl rfl rfl rfl (V_move rfl rfl) (GR_cons rfl rfl rfl rfl (V_move rfl rfl) (GR_nil))) (fun b5 => ?_)
              refine GT_br ?_ ?_
              · skip
                refine GT_makeSlice rfl rfl rfl rfl rfl rfl rfl Tryz.underlying38 zc_2 sz_2 by_2 ⟨rfl, rfl, rfl⟩ ⟨by omega, by omega⟩ (fun _ => GR_cons rfl rfl rfl rfl (V_move rfl rfl) (GR_nil)) (fun b19 => ?_)
                refine GT_br ?_ ?_
                · skip
                  refine GT_makeSlice rfl rfl rfl rfl rfl rfl rfl Tryz.underlying103 zc_72 sz_72 by_72 ⟨rfl, rfl, rfl⟩ ⟨by omega, by omega⟩ (fun _ => GR_cons rfl rfl rfl rfl (V_move rfl rfl) (GR_nil)) (fun b21 => ?_)
                  refine GT_store (vs := [_]) (l' := [_]) rfl rfl rfl rfl rfl rfl rfl sz_38 rfl rfl (Nat.le_of_ble_eq_true rfl) rfl (GR_cons rfl rfl rfl rfl (V_move rfl rfl) (GR_nil)) ?_
                  refine GT_store (vs := [_]) (l' := [_]) rfl rfl rfl rfl rfl rfl rfl sz_103 rfl rfl (Nat.le_of_ble_eq_true rfl) rfl (GR_nil) ?_
                  refine GT_nil ?_
                  exact GE_to (hk (b2, b4, b5, b19, b21) trivial) ⟨rfl, rfl, rfl, rfl, rfl, trivial⟩ (HS.cons rfl (HS.cons rfl (HS.cons rfl (HS.cons rfl (HS.cons rfl HS.nil)))))
                · skip
                  refine GT_store (vs := [_]) (l' := [_]) rfl rfl rfl rfl rfl rfl rfl sz_38 rfl rfl (Nat.le_of_ble_eq_true rfl) rfl (GR_cons rfl rfl rfl rfl (V_move rfl rfl) (GR_nil)) ?_
                  refine GT_makeSlice rfl rfl rfl rfl rfl rfl rfl Tryz.underlying103 zc_72 sz_72 by_72 ⟨rfl, rfl, rfl⟩ ⟨by omega, by omega⟩ (fun _ => GR_cons rfl rfl rfl rfl (V_move rfl rfl) (GR_nil)) (fun b21 => ?_)
                  refine GT_store (vs := [_]) (l' := [_]) rfl rfl rfl rfl rfl rfl rfl sz_103 rfl rfl (Nat.le_of_ble_eq_true rfl) rfl (GR_nil) ?_
                  refine GT_nil ?_
                  exact GE_to (hk (b2, b4, b5, b19, b21) trivial) ⟨rfl, rfl, rfl, rfl, rfl, trivial⟩ (HS.cons rfl (HS.cons rfl (HS.cons rfl (HS.cons rfl (HS.cons rfl HS.nil)))))
              · skip
                refine GT_makeSlice rfl rfl rfl rfl rfl rfl rfl Tryz.underlying103 zc_72 sz_72 by_72 ⟨rfl, rfl, rfl⟩ ⟨by omega, by omega⟩ (fun _ => GR_cons rfl rfl rfl rfl (V_move rfl rfl) (GR_nil)) (fun b21 => ?_)
                refine GT_makeSlice rfl rfl rfl rfl rfl rfl rfl Tryz.underlying38 zc_2 sz_2 by_2 ⟨rfl, rfl, rfl⟩ ⟨by omega, by omega⟩ (fun _ => GR_cons rfl rfl rfl rfl (V_move rfl rfl) (GR_nil)) (fun b19 => ?_)
                refine GT_store (vs := [_]) (l' := [_]) rfl rfl rfl rfl rfl rfl rfl sz_38 rfl rfl (Nat.le_of_ble_eq_true rfl) rfl (GR_cons rfl rfl rfl rfl (V_move rfl rfl) (GR_nil)) ?_
                refine GT_store (vs := [_]) (l' := [_]) rfl rfl rfl rfl rfl rfl rfl sz_103 rfl rfl (Nat.le_of_ble_eq_true rfl) rfl (GR_nil) ?_
                refine GT_nil ?_
                exact GE_to (hk (b2, b4, b5, b19, b21) trivial) ⟨rfl, rfl, rfl, rfl, rfl, trivial⟩ (HS.cons rfl (HS.cons rfl (HS.cons rfl (HS.cons rfl (HS.cons rfl HS.nil)))))
        · skip
          refine GT_alloc rfl rfl rfl rfl rfl zc_103 (fun _ => GR_cons rfl rfl rfl rfl (V_move rfl rfl) (GR_cons rfl rfl rfl rfl (V_move rfl rfl) (GR_nil))) (fun b5 => ?_)
          refine GT_br ?_ ?_
          · skip
            refine GT_makeSlice rfl rfl rfl rfl rfl rfl rfl Tryz.underlying38 zc_2 sz_2 by_2 ⟨rfl, rfl, rfl⟩ ⟨by omega, by omega⟩ (fun _ => GR_cons rfl rfl rfl rfl (V_move rfl rfl) (GR_nil)) (fun b19 => ?_)
            refine GT_br ?_ ?_
            · skip
              refine GT_makeSlice rfl rfl rfl rfl rfl rfl rfl Tryz.underlying103 zc_72 sz_72 by_72 ⟨rfl, rfl, rfl⟩ ⟨by omega, by omega⟩ (fun _ => GR_cons rfl rfl rfl rfl (V_move rfl rfl) (GR_nil)) (fun b21 => ?_)
              refine GT_alloc rfl rfl rfl rfl rfl zc_38 (fun _ => GR_cons rfl rfl rfl rfl (V_move rfl rfl) (GR_cons rfl rfl rfl rfl (V_move rfl rfl) (GR_nil))) (fun b4 => ?_)
              refine GT_store (vs := [_]) (l' := [_]) rfl rfl rfl rfl rfl rfl rfl sz_38 rfl rfl (Nat.le_of_ble_eq_true rfl) rfl (GR_cons rfl rfl rfl rfl (V_move rfl rfl) (GR_nil)) ?_
              refine GT_store (vs := [_]) (l' := [_]) rfl rfl rfl rfl rfl rfl rfl sz_103 rfl rfl (Nat.le_of_ble_eq_true rfl) rfl (GR_nil) ?_
              refine GT_nil ?_
              exact GE_to (hk (b2, b4, b5, b19, b21) trivial) ⟨rfl, rfl, rfl, rfl, rfl, trivial⟩ (HS.cons rfl (HS.cons rfl (HS.cons rfl (HS.cons rfl (HS.cons rfl HS.nil)))))
            · skip
              refine GT_alloc rfl rfl rfl rfl rfl zc_38 (fun _ => GR_cons rfl rfl rfl rfl (V_move rfl rfl) (GR_cons rfl rfl rfl rfl (V_move rfl rfl) (GR_nil))) (fun b4 => ?_)
              refine GT_br ?_ ?_
              · skip
                refine GT_makeSlice rfl rfl rfl rfl rfl rfl rfl Tryz.underlying103 zc_72 sz_72 by_72 ⟨rfl, rfl, rfl⟩ ⟨by omega, by omega⟩ (fun _ => GR_cons rfl rfl rfl rfl (V_move rfl rfl) (GR_nil)) (fun b21 => ?_)
                refine GT_store (vs := [_]) (l' := [_]) rfl rfl rfl rfl rfl rfl rfl sz_38 rfl rfl (Nat.le_of_ble_eq_true rfl) rfl (GR_cons rfl rfl rfl rfl (V_move rfl rfl) (GR_nil)) ?_
                refine GT_store (vs := [_]) (l' := [_]) rfl rfl rfl rfl rfl rfl rfl sz_103 rfl rfl (Nat.le_of_ble_eq_true rfl) rfl (GR_nil) ?_
                refine GT_nil ?_
                exact GE_to (hk (b2, b4, b5, b19, b21) trivial) ⟨rfl, rfl, rfl, rfl, rfl, trivial⟩ (HS.cons rfl (HS.cons rfl (HS.cons rfl (HS.cons rfl (HS.cons rfl HS.nil)))))
              · skip
                refine GT_store (vs := [_]) (l' := [_]) rfl rfl rfl rfl rfl rfl rfl sz_38 rfl rfl (Nat.le_of_ble_eq_true rfl) rfl (GR_cons rfl rfl rfl rfl (V_move rfl rfl) (GR_nil)) ?_
                refine GT_makeSlice rfl rfl rfl rfl rfl rfl rfl Tryz.underlying103 zc_72 sz_72 by_72 ⟨rfl, rfl, rfl⟩ ⟨by omega, by omega⟩ (fun _ => GR_cons rfl rfl rfl rfl (V_move rfl rfl) (GR_nil)) (fun b21 => ?_)
                refine GT_store (vs := [_]) (l' := [_]) rfl rfl rfl rfl rfl rfl rfl sz_103 rfl rfl (Nat.le_of_ble_eq_true rfl) rfl (GR_nil) ?_
                refine GT_nil ?_
                exact GE_to (hk (b2, b4, b5, b19, b21) trivial) ⟨rfl, rfl, rfl, rfl, rfl, trivial⟩ (HS.cons rfl (HS.cons rfl (HS.cons rfl (HS.cons rfl (HS.cons rfl HS.nil)))))
          · skip
            refine GT_br ?_ ?_
            · skip
              refine GT_makeSlice rfl rfl rfl rfl rfl rfl rfl Tryz.underlying103 zc_72 sz_72 by_72 ⟨rfl, rfl, rfl⟩ ⟨by omega, by omega⟩ (fun _ => GR_cons rfl rfl rfl rfl (V_move rfl rfl) (GR_nil)) (fun b21 => ?_)
              refine GT_br ?_ ?_
              · skip
                refine GT_makeSlice rfl rfl rfl rfl rfl rfl rfl Tryz.underlying38 zc_2 sz_2 by_2 ⟨rfl, rfl, rfl⟩ ⟨by omega, by omega⟩ (fun _ => GR_cons rfl rfl rfl rfl (V_move rfl rfl) (GR_nil)) (fun b19 => ?_)
                refine GT_alloc rfl rfl rfl rfl rfl zc_38 (fun _ => GR_cons rfl rfl rfl rfl (V_move rfl rfl) (GR_cons rfl rfl rfl rfl (V_move rfl rfl) (GR_nil))) (fun b4 => ?_)
                refine GT_store (vs := [_]) (l' := [_]) rfl rfl rfl rfl rfl rfl rfl sz_38 rfl rfl (Nat.le_of_ble_eq_true rfl) rfl (GR_cons rfl rfl rfl rfl (V_move rfl rfl) (GR_nil)) ?_
                refine GT_store (vs := [_]) (l' := [_]) rfl rfl rfl rfl rfl rfl rfl sz_103 rfl rfl (Nat.le_of_ble_eq_true rfl) rfl (GR_nil) ?_
                refine GT_nil ?_
                exact GE_to (hk (b2, b4, b5, b19, b21) trivial) ⟨rfl, rfl, rfl, rfl, rfl, trivial⟩ (HS.cons rfl (HS.cons rfl (HS.cons rfl (HS.cons rfl (HS.cons rfl HS.nil)))))
              · skip
                refine GT_alloc rfl rfl rfl rfl rfl zc_38 (fun _ => GR_cons rfl rfl rfl rfl (V_move rfl rfl) (GR_cons rfl rfl rfl rfl (V_move rfl rfl) (GR_nil))) (fun b4 => ?_)
                refine GT_makeSlice rfl rfl rfl rfl rfl rfl rfl Tryz.underlying38 zc_2 sz_2 by_2 ⟨rfl, rfl, rfl⟩ ⟨by omega, by omega⟩ (fun _ => GR_cons rfl rfl rfl rfl (V_move rfl rfl) (GR_nil)) (fun b19 => ?_)
                refine GT_store (vs := [_]) (l' := [_]) rfl rfl rfl rfl rfl rfl rfl sz_38 rfl rfl (Nat.le_of_ble_eq_true rfl) rfl (GR_cons rfl rfl rfl rfl (V_move rfl rfl) (GR_nil)) ?_
                refine GT_store (vs := [_]) (l' := [_]) rfl rfl rfl rfl rfl rfl rfl sz_103 rfl rfl (Nat.le_of_ble_eq_true rfl) rfl (GR_nil) ?_
                refine GT_nil ?_
                exact GE_to (hk (b2, b4, b5, b19, b21) trivial) ⟨rfl, rfl, rfl, rfl, rfl, trivial⟩ (HS.cons rfl (HS.cons rfl (HS.cons rfl (HS.cons rfl (HS.cons rfl HS.nil)))))
            · skip
              refine GT_alloc rfl rfl rfl rfl rfl zc_38 (fun _ => GR_cons rfl rfl rfl rfl (V_move rfl rfl) (GR_cons rfl rfl rfl rfl (V_move rfl rfl) (GR_nil))) (fun b4 => ?_)
              refine GT_br ?_ ?_
              · skip
                refine GT_makeSlice rfl rfl rfl rfl rfl rfl rfl Tryz.underlying38 zc_2 sz_2 by_2 ⟨rfl, rfl, rfl⟩ ⟨by omega, by omega⟩ (fun _ => GR_cons rfl rfl rfl rfl (V_move rfl rfl) (GR_nil)) (fun b19 => ?_)
                refine GT_br ?_ ?_
                · skip
                  refine GT_makeSlice rfl rfl rfl rfl rfl rfl rfl Tryz.underlying103 zc_72 sz_72 by_72 ⟨rfl, rfl, rfl⟩ ⟨by omega, by omega⟩ (fun _ => GR_cons rfl rfl rfl rfl (V_move rfl rfl) (GR_nil)) (fun b21 => ?_)
                  refine GT_store (vs := [_]) (l' := [_]) rfl rfl rfl rfl rfl rfl rfl sz_38 rfl rfl (Nat.le_of_ble_eq_true rfl) rfl (GR_cons rfl rfl rfl rfl (V_move rfl rfl) (GR_nil)) ?_
                  refine GT_store (vs := [_]) (l' := [_]) rfl rfl rfl rfl rfl rfl rfl sz_103 rfl rfl (Nat.le_of_ble_eq_true rfl) rfl (GR_nil) ?_
                  refine GT_nil ?_
                  exact GE_to (hk (b2, b4, b5, b19, b21) trivial) ⟨rfl, rfl, rfl, rfl, rfl, trivial⟩ (HS.cons rfl (HS.cons rfl (HS.cons rfl (HS.cons rfl (HS.cons rfl HS.nil)))))
                · skip
                  refine GT_store (vs := [_]) (l' := [_]) rfl rfl rfl rfl rfl rfl rfl sz_38 rfl rfl (Nat.le_of_ble_eq_true rfl) rfl (GR_cons rfl rfl rfl rfl (V_move rfl rfl) (GR_nil)) ?_
                  refine GT_makeSlice rfl rfl rfl rfl rfl rfl rfl Tryz.underlying103 zc_72 sz_72 by_72 ⟨rfl, rfl, rfl⟩ ⟨by omega, by omega⟩ (fun _ => GR_cons rfl rfl rfl rfl (V_move rfl rfl) (GR_nil)) (fun b21 => ?_)
                  refine GT_store (vs := [_]) (l' := [_]) rfl rfl rfl rfl rfl rfl rfl sz_103 rfl rfl (Nat.le_of_ble_eq_true rfl) rfl (GR_nil) ?_
                  refine GT_nil ?_
                  exact GE_to (hk (b2, b4, b5, b19, b21) trivial) ⟨rfl, rfl, rfl, rfl, rfl, trivial⟩ (HS.cons rfl (HS.cons rfl (HS.cons rfl (HS.cons rfl (HS.cons rfl HS.nil)))))
              · skip
                refine GT_makeSlice rfl rfl rfl rfl rfl rfl rfl Tryz.underlying103 zc_72 sz_72 by_72 ⟨rfl, rfl, rfl⟩ ⟨by omega, by omega⟩ (fun _ => GR_cons rfl rfl rfl rfl (V_move rfl rfl) (GR_nil)) (fun b21 => ?_)
                refine GT_makeSlice rfl rfl rfl rfl rfl rfl rfl Tryz.underlying38 zc_2 sz_2 by_2 ⟨rfl, rfl, rfl⟩ ⟨by omega, by omega⟩ (fun _ => GR_cons rfl rfl rfl rfl (V_move rfl rfl) (GR_nil)) (fun b19 => ?_)
                refine GT_store (vs := [_]) (l' := [_]) rfl rfl rfl rfl rfl rfl rfl sz_38 rfl rfl (Nat.le_of_ble_eq_true rfl) rfl (GR_cons rfl rfl rfl rfl (V_move rfl rfl) (GR_nil)) ?_
                refine GT_store (vs := [_]) (l' := [_]) rfl rfl rfl rfl rfl rfl rfl sz_103 rfl rfl (Nat.le_of_ble_eq_true rfl) rfl (GR_nil) ?_
                refine GT_nil ?_
                exact GE_to (hk (b2, b4, b5, b19, b21) trivial) ⟨rfl, rfl, rfl, rfl, rfl, trivial⟩ (HS.cons rfl (HS.cons rfl (HS.cons rfl (HS.cons rfl (HS.cons rfl HS.nil)))))
end Go.Proofs.YtogljfjbilndnaaGreatDoor.Lathe
/- The lathe's rounds and the reference's sweeps come to the same radii, if there are any. -/
namespace Go.Proofs.YtogljfjbilndnaaGreatDoor.Lathe
open Go.Sx

def val (r : List Int) (i : Int) : Int := r.getD i.toNat default
/-- r keeps the rules between samples -/
def KeepsE (b : Blank) (l : List Pt) (r : Int → Int) : Prop := ∀ x, IsEdge b l x → r x.to ≤ r x.frm + x.wt
/-- r keeps the rules between samples, and that of the rim, and nothing that does is farther out anywhere -/
structure Best (b : Blank) (l : List Pt) (r : List Int) : Prop where
  len : r.length = l.length
  keeps : KeepsE b l (val r)
  rim : ∀ i, In l.length i → val r i ≤ r0 b l i
  most : ∀ r', KeepsE b l r' → (∀ i, In l.length i → r' i ≤ r0 b l i) → ∀ i, In l.length i → r' i ≤ val r i
theorem Best.unique {b : Blank} {l : List Pt} {r r' : List Int} (h : Best b l r) (h' : Best b l r') : r = r' := by
  apply List.ext_getElem (by rw [h.len, h'.len])
  intro i h1 h2
  have hi : In l.length (i : Int) := ⟨by omega, by have := h.len; omega⟩
  have e1 := h.most _ h'.keeps h'.rim i hi
  have e2 := h'.most _ h.keeps h.rim i hi
  simp only [val, Int.toNat_natCast, List.getD, List.getElem?_eq_getElem h1, List.getElem?_eq_getElem h2, Option.getD_some] at e1 e2
  omega

section
variable {b : Blank} {l : List Pt} {E : List Edge}
/-- a circle: nothing keeps the rules -/
theorem none_of_circle {s : Srch} {p t : Nat} {rho tau : Int → Nat} (hE : Edges l.length E) (hmem : ∀ x, x ∈ E → IsEdge b l x) (h : Inv l.length E (r0 b l) (e0 b l) s p t E rho tau) (hp : l.length ≤ p) (hc : s.ch ≠ -1) : ¬ ∃ r, KeepsE b l r := by
  rintro ⟨r, hr⟩
  have hto : ∀ i, In l.length i → Lst s i ∈ E → (Lst s i).to = i := by
    intro i hi hm
    by_cases h0 : rho i = 0
    · rw [(h.zero i hi h0).1]; rfl
    · exact (h.anc i hi (by omega)).2.1
  obtain ⟨g1, g2, m, hm0, hmn, hmb⟩ := h.circle hE hp hc
  have hk := kept_sum (E := E) (s := s) (v := back s.last l.length s.ch) (r' := r) (fun x hx => hr x (hmem x hx)) m (fun i _ => by
    rw [← back_add]
    exact ⟨(g2 _).1, hto _ (g1 _) (g2 _).1⟩)
  have hb := circle_below (s := s) (tau := tau) (v := back s.last l.length s.ch) (fun i => by
    rw [← back_add, ← back_add]
    exact (g2 _).2) hm0 hmb
  rw [hmb] at hk
  omega
/-- settled: the best -/
theorem best_of_settled {s : Srch} {p t : Nat} {rho tau : Int → Nat} (hE : Edges l.length E) (hmem : ∀ x, IsEdge b l x → x ∈ E) (h : Inv l.length E (r0 b l) (e0 b l) s p t E rho tau) (hc : s.ch = -1) (hle : ∀ i, In l.length i → R s i ≤ r0 b l i) (hm : ∀ r', KeepsE b l r' → (∀ i, In l.length i → r' i ≤ r0 b l i) → ∀ i, In l.length i → r' i ≤ R s i) : Best b l s.r :=
  ⟨h.rl, fun x hx => h.settled hE hc x (hmem x hx), hle, hm⟩

/-! what holds of r from round to round: it is nowhere above the first one, nor below what keeps the rules -/
structure Mid (b : Blank) (l : List Pt) (r : List Int) : Prop where
  len : r.length = l.length
  le : ∀ i, In l.length i → val r i ≤ r0 b l i
  ge : ∀ r', KeepsE b l r' → (∀ i, In l.length i → r' i ≤ r0 b l i) → ∀ i, In l.length i → r' i ≤ val r i
theorem Mid.start : Mid b l (start b l) := ⟨start_length b l, fun i hi => Int.le_of_eq (start_R (L := []) (c := 0) hi), fun r' _ h i hi => by have := h i hi; have e : val (Go.Proofs.YtogljfjbilndnaaGreatDoor.Lathe.start b l) i = r0 b l i := start_R (L := []) (c := 0) hi; rw [e]; exact this⟩
theorem Mid.fold {r : List Int} {last : List Edge} (h : Mid b l r) (hE : Edges l.length E) (hmem : ∀ x, x ∈ E → IsEdge b l x) : Mid b l (E.foldl relax ⟨r, last, -1⟩).r :=
  ⟨by rw [foldl_rlen]; exact h.len, fun i hi => Int.le_trans (foldl_below E ⟨r, last, -1⟩ h.len hE i hi) (h.le i hi), fun r' hk hr i hi => foldl_above (r' := r') E ⟨r, last, -1⟩ h.len hE (fun x hx => hk x (hmem x hx)) (h.ge r' hk hr) i hi⟩

theorem rounds_mid (hE : Edges l.length (edgeList b l)) : ∀ (f : Nat) (r : List Int) (last : List Edge), Mid b l r → Mid b l (rounds b l f r last).r
  | 0, r, last, h => h
  | f + 1, r, last, h => by
    have h1 : Mid b l (round b l r last).r := h.fold hE (fun x hx => mem_edgeList.1 hx)
    by_cases hc : (round b l r last).ch = -1
    · rw [rounds_stop hc]; exact h1
    · by_cases hf : f = 0
      · subst hf; rw [rounds_last]; exact h1
      · rw [rounds_go hc hf]; exact rounds_mid hE f _ _ h1
end

theorem settled_best {b : Blank} {l : List Pt} (hb : b.ok = true) (hp : PtB l) : ((settled b l).ch = -1 ∧ Best b l (settled b l).r) ∨ ((settled b l).ch ≠ -1 ∧ ¬ ∃ r, KeepsE b l r) := by
  have hE := edges_edgeList hb hp
  obtain ⟨p, t, rho, tau, h1, h2, _⟩ := settled_inv hb hp
  have hm : Mid b l (settled b l).r := rounds_mid hE _ _ _ Mid.start
  by_cases hc : (settled b l).ch = -1
  · exact .inl ⟨hc, best_of_settled hE (fun x hx => mem_edgeList.2 hx) h1 hc hm.le hm.ge⟩
  · exact .inr ⟨hc, none_of_circle hE (fun x hx => mem_edgeList.1 hx) h1 (h2 hc) hc⟩

/-! the sweeps of the reference -/
def into (b : Blank) (l : List Pt) (i : Nat) : List Edge := optE (edgeOf b l 3 i) ++ (optE (edgeOf b l 5 i) ++ if i + 1 < l.length then optE (edgeOf b l 4 ((i : Int) + 1)) else [])
def sweepList (b : Blank) (l : List Pt) (k : Nat) : List Edge := (List.range k).flatMap (into b l)
theorem mem_sweepList {b : Blank} {l : List Pt} {x : Edge} : x ∈ sweepList b l l.length ↔ IsEdge b l x := by
  unfold sweepList IsEdge
  simp only [List.mem_flatMap, List.mem_range, into, List.mem_append, mem_optE]
  constructor
  · rintro ⟨i, hi, h | h | h⟩
    · exact ⟨3, i, .inl rfl, ⟨by omega, by omega⟩, h⟩
    · exact ⟨5, i, .inr (.inr rfl), ⟨by omega, by omega⟩, h⟩
    · split at h
      · exact ⟨4, (i : Int) + 1, .inr (.inl rfl), ⟨by omega, by omega⟩, mem_optE.1 h⟩
      · cases h
  · rintro ⟨rule, i, hr, hi, h1, h2⟩
    have hi' := hi
    unfold In at hi'
    have e1 : ((i.toNat : Nat) : Int) = i := by omega
    rcases hr with rfl | rfl | rfl
    · exact ⟨i.toNat, by omega, .inl (by rw [e1]; exact ⟨h1, h2⟩)⟩
    · have h3 : 0 < i := by rw [edgeOf_four hi] at h1; simpa using h1
      have e : (((i.toNat - 1 : Nat) : Int) + 1) = i := by omega
      exact ⟨i.toNat - 1, by omega, .inr (.inr (by rw [if_pos (by omega), e]; exact mem_optE.2 ⟨h1, h2⟩))⟩
    · exact ⟨i.toNat, by omega, .inr (.inl (by rw [e1]; exact ⟨h1, h2⟩))⟩
theorem edges_sweep {b : Blank} {l : List Pt} (hb : b.ok = true) (hp : PtB l) : Edges l.length (sweepList b l l.length) := fun x hx => by
  have := isEdge_facts hb hp (mem_sweepList.1 hx)
  exact ⟨this.1, this.2.1, this.2.2.1⟩

/-- an edge into i, when i may have fallen already -/
theorem relax_into {r : List Int} {L : List Edge} {i : Nat} {v c : Int} {x : Edge} (hi : i < r.length) (ht : x.to = i) (hf : 0 ≤ x.frm) (hne : x.frm ≠ x.to) : ∃ L' c', relax ⟨r.set i v, L, c⟩ x = ⟨r.set i (min v (val r x.frm + x.wt)), L', c'⟩ ∧ (c' ≠ -1 ↔ c ≠ -1 ∨ val r x.frm + x.wt < v) := by
  have h1 : R ⟨r.set i v, L, c⟩ x.to = v := by unfold R; rw [ht]; simp [List.getD, hi]
  have h2 : R ⟨r.set i v, L, c⟩ x.frm = val r x.frm := by unfold R val; dsimp only; rw [getD_set_ne (by omega)]
  by_cases hr : R ⟨r.set i v, L, c⟩ x.to ≤ R ⟨r.set i v, L, c⟩ x.frm + x.wt
  · rw [relax_no hr]
    rw [h1, h2] at hr
    exact ⟨L, c, by rw [Int.min_eq_left hr], by constructor; exact .inl; rintro (h | h); exact h; omega⟩
  · rw [relax_yes hr, h2]
    rw [h1, h2] at hr
    refine ⟨_, _, by rw [ht, Int.toNat_natCast, List.set_set, Int.min_eq_right (by omega)], ?_⟩
    constructor
    · intro _; right; omega
    · intro _; omega
theorem fold_none {r : List Int} {L : List Edge} {c : Int} : [].foldl relax ⟨r, L, c⟩ = ⟨r, L, c⟩ := rfl
theorem relax_opt {r : List Int} {L : List Edge} {i : Nat} {v c : Int} {e : Edge × Bool} (hi : i < r.length) (h : e.2 = true → e.1.to = i ∧ 0 ≤ e.1.frm ∧ e.1.frm ≠ e.1.to) : ∃ L' c', (optE e).foldl relax ⟨r.set i v, L, c⟩ = ⟨r.set i (if e.2 = true then min v (val r e.1.frm + e.1.wt) else v), L', c'⟩ ∧ (c' ≠ -1 ↔ c ≠ -1 ∨ e.2 = true ∧ val r e.1.frm + e.1.wt < v) := by
  unfold optE
  by_cases he : e.2 = true
  · obtain ⟨h1, h2, h3⟩ := h he
    obtain ⟨L', c', g1, g2⟩ := relax_into (L := L) (v := v) (c := c) hi h1 h2 h3
    rw [if_pos he, if_pos he]
    exact ⟨L', c', g1, by simpa [he] using g2⟩
  · rw [if_neg he, if_neg he]
    exact ⟨L, c, rfl, by simp [he]⟩

theorem into_most {b : Blank} {l : List Pt} {r : List Int} {L : List Edge} {i : Nat} {c : Int} (hb : b.ok = true) (hn : r.length = l.length) (hi : i < l.length) : ∃ L' c', (into b l i).foldl relax ⟨r, L, c⟩ = ⟨r.set i (most b l r i), L', c'⟩ ∧ (c' ≠ -1 ↔ c ≠ -1 ∨ most b l r i < r.getD i default) := by
  rw [Blank.ok_iff] at hb
  have hIn : In l.length (i : Int) := ⟨by omega, by omega⟩
  have e0 : r = r.set i (r.getD i default) := by
    apply List.ext_getElem?
    intro q
    rw [List.getElem?_set]
    split
    · rename_i e; subst e; simp [List.getD, hn, hi]
    · rfl
  have hs : (⟨r, L, c⟩ : Srch) = ⟨r.set i (r.getD i default), L, c⟩ := by rw [← e0]
  rw [hs]
  unfold into
  rw [List.foldl_append, List.foldl_append]
  obtain ⟨L1, c1, g1, g2⟩ := relax_opt (r := r) (L := L) (c := c) (v := r.getD i default) (i := i) (e := edgeOf b l 3 i) (by omega) (by rw [edgeOf_three hIn]; simp only [decide_eq_true_eq]; intro h; exact ⟨trivial, by omega, by omega⟩)
  rw [g1]
  have m1 : (if (edgeOf b l 3 i).2 = true then min (r.getD i default) (val r (edgeOf b l 3 i).1.frm + (edgeOf b l 3 i).1.wt) else r.getD i default) = most1 b r i := by
    rw [edgeOf_three hIn]; unfold most1 val
    simp only [decide_eq_true_eq, show ((0 : Int) < (i : Int)) = (0 < i) by simp]
    rw [show ((i : Int) - 1).toNat = i - 1 by omega]
    split
    · congr 1; omega
    · rfl
  rw [m1]
  have k1 : ((edgeOf b l 3 i).2 = true ∧ val r (edgeOf b l 3 i).1.frm + (edgeOf b l 3 i).1.wt < r.getD i default) ↔ most1 b r i < r.getD i default := by
    rw [← m1]
    by_cases h : (edgeOf b l 3 i).2 = true
    · rw [if_pos h]; simp only [h, true_and]; omega
    · rw [if_neg h]; simp only [h]; simp
  obtain ⟨L2, c2, g3, g4⟩ := relax_opt (r := r) (L := L1) (c := c1) (v := most1 b r i) (i := i) (e := edgeOf b l 5 i) (by omega) (by
    rw [edgeOf_five hIn]; split
    · intro h; cases h
    · intro _; exact ⟨rfl, by dsimp only; omega, by dsimp only; omega⟩)
  rw [g3]
  have m2 : (if (edgeOf b l 5 i).2 = true then min (most1 b r i) (val r (edgeOf b l 5 i).1.frm + (edgeOf b l 5 i).1.wt) else most1 b r i) = most2 b l r i := by
    rw [edgeOf_five hIn]; unfold most2 val
    by_cases hper : (i : Int) < b.per
    · rw [if_pos hper, if_neg (by simp), if_neg (by omega)]
    · rw [if_neg hper, if_pos rfl, if_pos (by omega)]
      dsimp only
      rw [show ((i : Int) - b.per).toNat = i - b.per.toNat by omega, show ((i : Int)).toNat = i by omega]
      congr 1; omega
  rw [m2]
  have k2 : ((edgeOf b l 5 i).2 = true ∧ val r (edgeOf b l 5 i).1.frm + (edgeOf b l 5 i).1.wt < most1 b r i) ↔ most2 b l r i < most1 b r i := by
    rw [← m2]; split
    · rename_i h; simp only [h, true_and]; omega
    · rename_i h; simp only [h]; simp
  have hm12 : most2 b l r i ≤ most1 b r i := by unfold most2; split <;> omega
  have hm01 : most1 b r i ≤ r.getD i default := by unfold most1; split <;> omega
  by_cases hl : i + 1 < l.length
  · rw [if_pos hl]
    have hIn2 : In l.length ((i : Int) + 1) := ⟨by omega, by omega⟩
    obtain ⟨L3, c3, g5, g6⟩ := relax_opt (r := r) (L := L2) (c := c2) (v := most2 b l r i) (i := i) (e := edgeOf b l 4 ((i : Int) + 1)) (by omega) (by rw [edgeOf_four hIn2]; intro _; dsimp only; exact ⟨by omega, by omega, by omega⟩)
    rw [g5]
    have m3 : (if (edgeOf b l 4 ((i : Int) + 1)).2 = true then min (most2 b l r i) (val r (edgeOf b l 4 ((i : Int) + 1)).1.frm + (edgeOf b l 4 ((i : Int) + 1)).1.wt) else most2 b l r i) = most b l r i := by
      rw [edgeOf_four hIn2]; unfold most val
      rw [if_pos hl, if_pos (by rw [decide_eq_true_eq]; omega)]
      dsimp only
      rw [show ((i : Int) + 1).toNat = i + 1 by omega]
    rw [m3]
    refine ⟨L3, c3, rfl, ?_⟩
    have k3 : ((edgeOf b l 4 ((i : Int) + 1)).2 = true ∧ val r (edgeOf b l 4 ((i : Int) + 1)).1.frm + (edgeOf b l 4 ((i : Int) + 1)).1.wt < most2 b l r i) ↔ most b l r i < most2 b l r i := by
      rw [← m3]; split
      · rename_i h; simp only [h, true_and]; omega
      · rename_i h; simp only [h]; simp
    have hm23 : most b l r i ≤ most2 b l r i := by unfold most; split <;> omega
    rw [g6, k3, g4, k2, g2, k1]
    constructor
    · rintro (((h | h) | h) | h)
      · exact .inl h
      · right; omega
      · right; omega
      · right; omega
    · rintro (h | h)
      · exact .inl (.inl (.inl h))
      · by_cases q1 : most b l r i < most2 b l r i
        · exact .inr q1
        · by_cases q2 : most2 b l r i < most1 b r i
          · exact .inl (.inr q2)
          · exact .inl (.inl (.inr (by omega)))
  · rw [if_neg hl]
    have m3 : most b l r i = most2 b l r i := by unfold most; rw [if_neg hl]
    rw [m3]
    refine ⟨L2, c2, rfl, ?_⟩
    rw [g4, k2, g2, k1]
    constructor
    · rintro ((h | h) | h)
      · exact .inl h
      · right; omega
      · right; omega
    · rintro (h | h)
      · exact .inl (.inl h)
      · by_cases q2 : most2 b l r i < most1 b r i
        · exact .inr q2
        · exact .inl (.inr (by omega))

theorem sweepTo_len (b : Blank) (l : List Pt) : ∀ (k : Nat) (r : List Int), (sweepTo b l k r).1.length = r.length
  | 0, r => rfl
  | k + 1, r => by simp only [sweepTo, List.length_set]; exact sweepTo_len b l k r
theorem sweep_relax {b : Blank} {l : List Pt} {r : List Int} {L : List Edge} (hb : b.ok = true) (hn : r.length = l.length) : ∀ k, k ≤ l.length → ∃ L' c', (sweepList b l k).foldl relax ⟨r, L, -1⟩ = ⟨(sweepTo b l k r).1, L', c'⟩ ∧ (c' ≠ -1 ↔ (sweepTo b l k r).2 = true)
  | 0, _ => ⟨L, -1, rfl, by simp [sweepTo]⟩
  | k + 1, hk => by
    obtain ⟨L1, c1, g1, g2⟩ := sweep_relax hb hn k (by omega)
    have e : sweepList b l (k + 1) = sweepList b l k ++ into b l k := by simp [sweepList, List.range_succ]
    rw [e, List.foldl_append, g1]
    obtain ⟨L2, c2, g3, g4⟩ := into_most (L := L1) (c := c1) (r := (sweepTo b l k r).1) hb (by rw [sweepTo_len, hn]) (show k < l.length by omega)
    refine ⟨L2, c2, g3, ?_⟩
    rw [g4, g2]
    simp [sweepTo]

theorem grounds_best {b : Blank} {l : List Pt} (hb : b.ok = true) (hp : PtB l) : ∀ (f p t : Nat) (r : List Int) (L : List Edge) (rho tau : Int → Nat), Inv l.length (sweepList b l l.length) (r0 b l) (e0 b l) ⟨r, L, -1⟩ p t [] rho tau → Mid b l r → 0 < f → l.length + 1 ≤ p + f →
    (∃ r', grounds b l f r = some r' ∧ Best b l r') ∨ (grounds b l f r = none ∧ ¬ ∃ r, KeepsE b l r)
  | 0, _, _, _, _, _, _, _, _, h, _ => by omega
  | f + 1, p, t, r, L, rho, tau, h, hm, _, hpf => by
    have hE := edges_sweep hb hp
    obtain ⟨rho1, tau1, h1⟩ := h.round hE
    have hm1 := hm.fold (last := L) hE (fun x hx => mem_sweepList.1 hx)
    obtain ⟨L', c', g1, g2⟩ := sweep_relax (L := L) hb h.rl l.length (Nat.le_refl _)
    rw [g1] at h1 hm1
    have eg : grounds b l (f + 1) r = if (sweepTo b l l.length r).2 then grounds b l f (sweepTo b l l.length r).1 else some (sweepTo b l l.length r).1 := rfl
    rw [eg]
    by_cases hc : (sweepTo b l l.length r).2 = true
    · rw [if_pos hc]
      by_cases hf : f = 0
      · subst hf
        exact .inr ⟨rfl, none_of_circle hE (fun x hx => mem_sweepList.1 hx) h1 (by omega) (g2.2 hc)⟩
      · exact grounds_best hb hp f (p + 1) _ _ _ _ _ h1.next hm1 (by omega) (by omega)
    · rw [if_neg hc]
      have hc' : c' = -1 := by
        by_cases hq : c' = -1
        · exact hq
        · exact absurd (g2.1 hq) hc
      exact .inl ⟨_, rfl, best_of_settled hE (fun x hx => mem_sweepList.2 hx) h1 hc' hm1.le hm1.ge⟩
theorem greatest_best {b : Blank} {l : List Pt} (hb : b.ok = true) (hp : PtB l) : (∃ r', greatest b l = some r' ∧ Best b l r') ∨ (greatest b l = none ∧ ¬ ∃ r, KeepsE b l r) :=
  grounds_best hb hp (l.length + 2) 0 0 (start b l) (rimEdges b l) _ _ (start_inv b l _) Mid.start (by omega) (by omega)
end Go.Proofs.YtogljfjbilndnaaGreatDoor.Lathe
/- What the outermost cut is, and what the lathe's search has to do with it. -/
namespace Go.Proofs.YtogljfjbilndnaaGreatDoor.Lathe
open Go.Sx

/-- the error of a blank and points -/
def both (b : Blank) (l : List Pt) : Int := if b.ok then ptsCheck l else 2
theorem both_zero {b : Blank} {l : List Pt} : both b l = 0 ↔ b.ok = true ∧ l.length ≤ 4096 ∧ l.all ptOk = true := by
  unfold both ptsCheck
  constructor
  · intro h
    split at h
    · rename_i hb
      split at h
      · cases h
      · split at h
        · exact ⟨hb, by omega, by assumption⟩
        · cases h
    · cases h
  · rintro ⟨h1, h2, h3⟩
    rw [if_pos h1, if_neg (by omega), if_pos h3]
theorem both_bad {b : Blank} {l : List Pt} (h : b.ok = false) : both b l = 2 := by unfold both; rw [h]; rfl
theorem both_ok {b : Blank} {l : List Pt} (h : b.ok = true) : both b l = ptsCheck l := by unfold both; rw [h]; rfl

def coreAll (b : Blank) (l : List Pt) (r : List Int) : Bool := (List.range l.length).all fun i => decide (b.core ≤ r.getD i default + (l.getD i default).inn)
theorem coreAll_iff {b : Blank} {l : List Pt} {r : List Int} : coreAll b l r = true ↔ ∀ i, i < l.length → b.core ≤ r.getD i default + (l.getD i default).inn := by simp [coreAll]
/-- the radii of the outermost cut, if there is one -/
def outer (b : Blank) (l : List Pt) : Option (List Int) := (greatest b l).bind fun r => if coreAll b l r then some r else none
def outE (b : Blank) (l : List Pt) : Int := if both b l = 0 then (if (outer b l).isSome then 0 else 15) else both b l
def outR (b : Blank) (l : List Pt) : List Int := if both b l = 0 then (outer b l).getD [] else []

theorem search_outer {b : Blank} {l : List Pt} {rad : List Int} {st : List Stp} (hb : b.ok = true) (hp : PtB l) (h : Search b l rad st) : (st = [] ∧ outer b l = some rad) ∨ (0 < st.length ∧ outer b l = none) := by
  have hw : ∀ i : Nat, i < l.length → (edgeOf b l 2 i).1.wt = (l.getD i default).inn - b.core := by
    intro i hi
    rw [edgeOf_two ⟨by omega, by omega⟩]; simp
  rcases settled_best hb hp with ⟨hc, hbest⟩ | ⟨hc, hno⟩
  · obtain ⟨r, hr, hbr⟩ : ∃ r, greatest b l = some r ∧ Best b l r := by
      rcases greatest_best hb hp with ⟨r, h1, h2⟩ | ⟨_, h2⟩
      · exact ⟨r, h1, h2⟩
      · exact absurd ⟨_, hbest.keeps⟩ h2
    obtain rfl := hbr.unique hbest
    rcases h with ⟨h1, _⟩ | ⟨_, _, i, hi, hlt, m, _, rfl⟩ | ⟨_, rfl, rfl, hge⟩
    · exact absurd hc h1
    · right
      refine ⟨by rw [List.length_reverse, wsteps_length]; omega, ?_⟩
      unfold outer; rw [hr]
      have : coreAll b l (settled b l).r = false := by
        cases hca : coreAll b l (settled b l).r with
        | false => rfl
        | true => have := coreAll_iff.1 hca i hi; rw [hw i hi] at hlt; omega
      simp [this]
    · left
      refine ⟨rfl, ?_⟩
      unfold outer; rw [hr]
      have : coreAll b l (settled b l).r = true := coreAll_iff.2 (fun i hi => by have := hge i hi; rw [hw i hi] at this; omega)
      simp [this]
  · rcases h with ⟨_, _, m, hm, rfl⟩ | ⟨h1, _⟩ | ⟨h1, _⟩
    · right
      refine ⟨by rw [List.length_reverse, csteps_length]; exact hm.1, ?_⟩
      rcases greatest_best hb hp with ⟨r, h1, h2⟩ | ⟨h1, _⟩
      · exact absurd ⟨_, h2.keeps⟩ hno
      · unfold outer; rw [h1]; rfl
    · exact absurd h1 hc
    · exact absurd h1 hc
theorem outE_of {b : Blank} {l : List Pt} (h : both b l = 0) {r : List Int} (h2 : outer b l = some r) : outE b l = 0 ∧ outR b l = r := by simp [outE, outR, h, h2]
theorem outE_none {b : Blank} {l : List Pt} (h : both b l = 0) (h2 : outer b l = none) : outE b l = 15 ∧ outR b l = [] := by simp [outE, outR, h, h2]
theorem outE_err {b : Blank} {l : List Pt} (h : both b l ≠ 0) : outE b l = both b l ∧ outR b l = [] := by simp [outE, outR, h]

/-- a rule at a sample, as the reference has it -/
def kept (b : Blank) (l : List Pt) (r : List Int) (i : Nat) (rule : Int) : Bool :=
  if rule = 1 then decide (r.getD i default + (l.getD i default).out ≤ b.rim)
  else if rule = 2 then decide (b.core ≤ r.getD i default + (l.getD i default).inn)
  else if rule = 3 then decide (i < 1 ∨ b.slow ≤ r.getD (i - 1) default - r.getD i default)
  else if rule = 4 then decide (i < 1 ∨ r.getD (i - 1) default - r.getD i default ≤ b.fast)
  else decide ((i : Int) < b.per ∨ b.land ≤ r.getD (i - b.per.toNat) default + (l.getD (i - b.per.toNat) default).inn - (r.getD i default + (l.getD i default).out))
/-- all of r are small -/
def Sm (r : List Int) : Prop := ∀ q, q < r.length → -1152921504606846976 ≤ r.getD q default ∧ r.getD q default ≤ 1152921504606846976

theorem sweepTo_bd {b : Blank} {l : List Pt} (hb : b.ok = true) (hp : PtB l) : ∀ (k : Nat) (r : List Int) (lo : Int), r.length = l.length → Bd r l.length lo → k ≤ l.length → Bd (sweepTo b l k r).1 l.length (lo - 16777216 * k)
  | 0, r, lo, _, h, _ => by simpa [sweepTo] using h
  | k + 1, r, lo, hn, h, hk => by
    have h1 := sweepTo_bd hb hp k r lo hn h (by omega)
    have h2 := Bd.set (i := k) h1 (by rw [sweepTo_len]; omega) (most_bd (i := k) hb h1 (by omega) hp)
    simp only [sweepTo]
    intro q hq
    have := h2 q hq
    push_cast
    omega
theorem grounds_bd {b : Blank} {l : List Pt} (hb : b.ok = true) (hp : PtB l) : ∀ (f : Nat) (r : List Int) (lo : Int) (r' : List Int), r.length = l.length → Bd r l.length lo → grounds b l f r = some r' → r'.length = l.length ∧ Bd r' l.length (lo - 16777216 * (f * l.length : Nat))
  | 0, _, _, _, _, _, h => by cases h
  | f + 1, r, lo, r', hn, h, hg => by
    have h1 := sweepTo_bd hb hp l.length r lo hn h (Nat.le_refl _)
    have hl1 : (sweepTo b l l.length r).1.length = l.length := by rw [sweepTo_len, hn]
    have eg : grounds b l (f + 1) r = if (sweepTo b l l.length r).2 then grounds b l f (sweepTo b l l.length r).1 else some (sweepTo b l l.length r).1 := rfl
    rw [eg] at hg
    split at hg
    · obtain ⟨h2, h3⟩ := grounds_bd hb hp f _ _ r' hl1 h1 hg
      refine ⟨h2, fun q hq => ?_⟩
      have := h3 q hq
      rw [Nat.succ_mul]; generalize f * l.length = z at *; push_cast at this ⊢; omega
    · injection hg with hg
      subst hg
      refine ⟨hl1, fun q hq => ?_⟩
      have := h1 q hq
      rw [Nat.succ_mul]; generalize f * l.length = z at *; push_cast at this ⊢; omega
theorem greatest_sm {b : Blank} {l : List Pt} (hb : b.ok = true) (hp : PtB l) (hl : l.length ≤ 4096) {r : List Int} (h : greatest b l = some r) : r.length = l.length ∧ Sm r := by
  obtain ⟨h1, h2⟩ := grounds_bd hb hp _ _ _ r (start_length b l) (start_bd hb hp) h
  refine ⟨h1, fun q hq => ?_⟩
  have h3 : (l.length + 2) * l.length ≤ 4098 * 4096 := Nat.mul_le_mul (by omega) hl
  have := h2 q (by omega)
  omega
end Go.Proofs.YtogljfjbilndnaaGreatDoor.Lathe
/- Which cuts keep the rules, in plain Lean. -/
namespace Go.Proofs.YtogljfjbilndnaaGreatDoor.Lathe
open Go.Sx

theorem kept_two {b : Blank} {l : List Pt} {r : List Int} {i : Nat} : kept b l r i 2 = decide (b.core ≤ r.getD i default + (l.getD i default).inn) := by simp [kept]
theorem outer_none {b : Blank} {l : List Pt} (h : greatest b l = none) : outer b l = none := by unfold outer; rw [h]; rfl
theorem outer_bad {b : Blank} {l : List Pt} {r : List Int} {i : Nat} (h : greatest b l = some r) (hi : i < l.length) (hk : kept b l r i 2 = false) : outer b l = none := by
  unfold outer; rw [h]
  have : coreAll b l r = false := by
    cases hc : coreAll b l r with
    | false => rfl
    | true => have := coreAll_iff.1 hc i hi; rw [kept_two, decide_eq_false_iff_not] at hk; exact absurd this hk
  simp [this]
theorem outer_good {b : Blank} {l : List Pt} {r : List Int} (h : greatest b l = some r) (hk : ∀ i, i < l.length → kept b l r i 2 = true) : outer b l = some r := by
  unfold outer; rw [h]
  have : coreAll b l r = true := coreAll_iff.2 fun i hi => by have := hk i hi; rw [kept_two] at this; simpa using this
  simp [this]

def rOk (x : Int) : Bool := betw x (-16777216) 16777216
/-- the error of a cut -/
def cutE (b : Blank) (l : List Pt) (r : List Int) : Int := if both b l = 0 then (if r.length = l.length then (if r.all rOk then 0 else 2) else 17) else both b l
theorem cutE_zero {b : Blank} {l : List Pt} {r : List Int} : cutE b l r = 0 ↔ both b l = 0 ∧ r.length = l.length ∧ r.all rOk = true := by
  unfold cutE
  constructor
  · intro h
    split at h
    · split at h
      · split at h
        · exact ⟨by assumption, by assumption, by assumption⟩
        · cases h
      · cases h
    · contradiction
  · rintro ⟨h1, h2, h3⟩; rw [if_pos h1, if_pos h2, if_pos h3]
theorem sm_of {r : List Int} (h : r.all rOk = true) : Sm r := by
  intro q hq
  have := List.all_eq_true.1 h _ (List.getElem_mem hq)
  simp only [rOk, betw_iff] at this
  simp only [List.getD, List.getElem?_eq_getElem hq, Option.getD_some]; omega

/-- all samples and rules, in order -/
def stepTo (k j : Nat) : List Stp := ((List.range k).flatMap fun i : Nat => (List.range 5).map fun q : Nat => (⟨(q : Int) + 1, i⟩ : Stp)) ++ (List.range j).map fun q : Nat => (⟨(q : Int) + 1, k⟩ : Stp)
def stepList (l : List Pt) : List Stp := stepTo l.length 0
theorem stepTo_succ (k j : Nat) : stepTo k j ++ [⟨(j : Int) + 1, k⟩] = stepTo k (j + 1) := by simp [stepTo, List.range_succ]
theorem stepTo_five (k : Nat) : stepTo k 5 = stepTo (k + 1) 0 := by simp [stepTo, List.range_succ]
theorem stepTo_pre {l : List Pt} {k j : Nat} (hk : k < l.length) (hj : j ≤ 5) : stepTo k j <+: stepList l := by
  have h1 : stepTo k j <+: stepTo k 5 := by
    obtain ⟨m, hm⟩ : ∃ m, 5 = j + m := ⟨5 - j, by omega⟩
    unfold stepTo
    rw [List.prefix_append_right_inj, hm, List.range_add, List.map_append]
    exact List.prefix_append _ _
  refine h1.trans ?_
  rw [stepTo_five]
  obtain ⟨m, hm⟩ : ∃ m, l.length = (k + 1) + m := ⟨l.length - (k + 1), by omega⟩
  unfold stepList stepTo
  rw [hm, List.range_add (n := k + 1), List.flatMap_append, List.range_zero, List.map_nil, List.append_nil, List.map_nil, List.append_nil]
  exact List.prefix_append _ _
def bad (b : Blank) (l : List Pt) (r : List Int) (s : Stp) : Bool := !kept b l r s.samp.toNat s.rule
def firstBad (b : Blank) (l : List Pt) (r : List Int) : Option Stp := (stepList l).find? (bad b l r)
def cutRes (b : Blank) (l : List Pt) (r : List Int) : Int × Int × Int := if cutE b l r = 0 then (match firstBad b l r with | some s => (s.samp, s.rule, 20) | none => (0, 0, 0)) else (0, 0, cutE b l r)
theorem cutRes_err {b : Blank} {l : List Pt} {r : List Int} (h : cutE b l r ≠ 0) : cutRes b l r = (0, 0, cutE b l r) := by unfold cutRes; rw [if_neg h]
theorem cutRes_none {b : Blank} {l : List Pt} {r : List Int} (h : cutE b l r = 0) (h2 : firstBad b l r = none) : cutRes b l r = (0, 0, 0) := by unfold cutRes; rw [if_pos h, h2]
theorem cutRes_some {b : Blank} {l : List Pt} {r : List Int} {s : Stp} (h : cutE b l r = 0) (h2 : firstBad b l r = some s) : cutRes b l r = (s.samp, s.rule, 20) := by unfold cutRes; rw [if_pos h, h2]
theorem find_snoc {b : Blank} {l : List Pt} {r : List Int} {pre : List Stp} {s : Stp} (h : pre.find? (bad b l r) = none) : (pre ++ [s]).find? (bad b l r) = if bad b l r s then some s else none := by
  rw [List.find?_append, h]; simp [List.find?]; split <;> simp_all

/-- how the lathe sees a rule -/
def at' (r : List Int) (i : Int) : Int := if i = -1 then 0 else r.getD i.toNat default
def keepsL (r : List Int) (e : Edge × Bool) : Bool := if e.2 then decide (at' r e.1.to ≤ at' r e.1.frm + e.1.wt) else true
theorem keepsL_kept {b : Blank} {l : List Pt} {r : List Int} {i : Nat} {rule : Int} (hb : b.ok = true) (hi : i < l.length) (hr : 1 ≤ rule ∧ rule ≤ 5) : keepsL r (edgeOf b l rule i) = kept b l r i rule := by
  rw [Blank.ok_iff] at hb
  have hIn : In l.length (i : Int) := ⟨by omega, by omega⟩
  have e1 : ((i : Int)).toNat = i := by omega
  have e2 : ((i : Int) - 1).toNat = i - 1 := by omega
  have e3 : ((i : Int) - b.per).toNat = i - b.per.toNat := by omega
  unfold kept keepsL at'
  rcases (show rule = 1 ∨ rule = 2 ∨ rule = 3 ∨ rule = 4 ∨ rule = 5 by omega) with rfl | rfl | rfl | rfl | rfl
  · rw [edgeOf_one hIn]; simp only [e1]
    (repeat' split) <;> first | contradiction | (exfalso; omega) | exact decide_eq_decide.2 (by omega)
  · rw [edgeOf_two hIn]; simp only [e1]
    (repeat' split) <;> first | contradiction | (exfalso; omega) | exact decide_eq_decide.2 (by omega)
  · rw [edgeOf_three hIn]; simp only [e1, e2, decide_eq_true_eq]
    (repeat' split) <;> first | contradiction | (exfalso; omega) | exact decide_eq_decide.2 (by omega) | exact (decide_eq_true (by omega)).symm
  · rw [edgeOf_four hIn]; simp only [e1, e2, decide_eq_true_eq]
    (repeat' split) <;> first | contradiction | (exfalso; omega) | exact decide_eq_decide.2 (by omega) | exact (decide_eq_true (by omega)).symm
  · rw [edgeOf_five hIn]
    by_cases h0 : (i : Int) < b.per
    · rw [if_pos h0]; (repeat' split) <;> first | contradiction | (exfalso; omega) | exact (decide_eq_true (by omega)).symm
    · rw [if_neg h0]; simp only [e1, e3]
      (repeat' split) <;> first | contradiction | (exfalso; omega) | exact decide_eq_decide.2 (by omega)
theorem edgeOf_place {b : Blank} {l : List Pt} {rule i : Int} (hb : b.ok = true) (hp : PtB l) (hi : In l.length i) : ((edgeOf b l rule i).1.frm = -1 ∨ ((edgeOf b l rule i).2 = true → In l.length (edgeOf b l rule i).1.frm)) ∧ ((edgeOf b l rule i).1.to = -1 ∨ ((edgeOf b l rule i).2 = true → In l.length (edgeOf b l rule i).1.to)) ∧ -16777216 ≤ (edgeOf b l rule i).1.wt ∧ (edgeOf b l rule i).1.wt ≤ 16777216 := by
  rw [Blank.ok_iff] at hb
  have hi' := hi
  unfold In at hi' ⊢
  have g2 := hp i.toNat (by omega)
  have g1 := fun h : b.per ≤ i => hp (i - b.per).toNat (by omega)
  unfold edgeOf
  rw [if_neg (by omega)]
  (repeat' split) <;> dsimp only <;> (try simp only [decide_eq_true_eq, Bool.false_eq_true, false_imp_iff, or_true, true_or, eq_self, true_and, forall_const]) <;> first | omega | (have := g1 (by omega); omega) | (refine ⟨.inr fun h => ?_, .inr fun h => ?_, ?_, ?_⟩ <;> first | omega | cases h)
end Go.Proofs.YtogljfjbilndnaaGreatDoor.Lathe
/- Cuts that keep all rules; the outermost one. -/
namespace Go.Proofs.YtogljfjbilndnaaGreatDoor.Lathe
open Go.Sx

/-- r keeps all rules -/
structure Keeps (b : Blank) (l : List Pt) (r : Int → Int) : Prop where
  edges : KeepsE b l r
  rim : ∀ i, In l.length i → r i ≤ r0 b l i
  core : ∀ i : Nat, i < l.length → b.core ≤ r i + (l.getD i default).inn
theorem val_nat (r : List Int) (i : Nat) : val r (i : Int) = r.getD i default := by simp [val]

theorem isEdge_of {b : Blank} {l : List Pt} {rule : Int} {i : Nat} (hr : rule = 3 ∨ rule = 4 ∨ rule = 5) (hi : i < l.length) (h : (edgeOf b l rule i).2 = true) : IsEdge b l (edgeOf b l rule i).1 := ⟨rule, i, hr, ⟨by omega, by omega⟩, h, rfl⟩
theorem at'_val {r : List Int} {n : Nat} {i : Int} (h : In n i) : at' r i = val r i := by
  unfold In at h; unfold at' val; rw [if_neg (by omega)]
/-- the rules between samples, at one sample -/
theorem kept_edge {b : Blank} {l : List Pt} {r : List Int} {i : Nat} {rule : Int} (hb : b.ok = true) (hp : PtB l) (hr : rule = 3 ∨ rule = 4 ∨ rule = 5) (hi : i < l.length) : kept b l r i rule = true ↔ ((edgeOf b l rule i).2 = true → val r (edgeOf b l rule i).1.to ≤ val r (edgeOf b l rule i).1.frm + (edgeOf b l rule i).1.wt) := by
  rw [← keepsL_kept hb hi (by omega)]
  unfold keepsL
  by_cases h : (edgeOf b l rule i).2 = true
  · have := isEdge_facts hb hp (isEdge_of hr hi h)
    rw [if_pos h, at'_val this.1, at'_val this.2.1]; simp [h]
  · rw [if_neg h]; simp [h]
theorem keepsE_iff {b : Blank} {l : List Pt} {r : List Int} (hb : b.ok = true) (hp : PtB l) : KeepsE b l (val r) ↔ ∀ i rule, i < l.length → (rule = 3 ∨ rule = 4 ∨ rule = 5) → kept b l r i rule = true := by
  constructor
  · intro h i rule hi hr
    exact (kept_edge hb hp hr hi).2 fun hf => h _ (isEdge_of hr hi hf)
  · rintro h x ⟨rule, i, hr, hi, hf, rfl⟩
    have hi' := hi
    unfold In at hi'
    obtain ⟨q, rfl⟩ : ∃ q : Nat, i = q := ⟨i.toNat, by omega⟩
    exact (kept_edge hb hp hr (by omega)).1 (h q rule (by omega) hr) hf
theorem kept_one {b : Blank} {l : List Pt} {r : List Int} {i : Nat} : kept b l r i 1 = decide (r.getD i default + (l.getD i default).out ≤ b.rim) := by simp [kept]
theorem mem_stepList' {l : List Pt} {s : Stp} (hi : In l.length s.samp) (hr : 1 ≤ s.rule ∧ s.rule ≤ 5) : s ∈ stepList l := by
  unfold In at hi
  simp only [stepList, stepTo, List.range_zero, List.map_nil, List.append_nil, List.mem_flatMap, List.mem_range, List.mem_map]
  exact ⟨s.samp.toNat, by omega, (s.rule - 1).toNat, by omega, by cases s; simp only [Stp.mk.injEq]; dsimp only at hi hr; omega⟩
theorem stepList_in {l : List Pt} {s : Stp} (h : s ∈ stepList l) : In l.length s.samp ∧ 1 ≤ s.rule ∧ s.rule ≤ 5 := by
  simp only [stepList, stepTo, List.range_zero, List.map_nil, List.append_nil, List.mem_flatMap, List.mem_range, List.mem_map] at h
  obtain ⟨i, hi, q, hq, rfl⟩ := h
  exact ⟨⟨by dsimp only; omega, by dsimp only; omega⟩, by dsimp only; omega, by dsimp only; omega⟩
theorem firstBad_iff {b : Blank} {l : List Pt} {r : List Int} (hb : b.ok = true) (hp : PtB l) : firstBad b l r = none ↔ Keeps b l (val r) := by
  unfold firstBad
  rw [List.find?_eq_none]
  have key : (∀ s ∈ stepList l, ¬ bad b l r s = true) ↔ ∀ i rule, i < l.length → 1 ≤ rule ∧ rule ≤ 5 → kept b l r i rule = true := by
    constructor
    · intro h i rule hi hr
      have := h ⟨rule, i⟩ (mem_stepList' ⟨by dsimp only; omega, by dsimp only; omega⟩ hr)
      simpa [bad] using this
    · intro h s hs
      obtain ⟨h1, h2⟩ := stepList_in hs
      unfold In at h1
      have := h s.samp.toNat s.rule (by omega) h2
      simp [bad, this]
  rw [key]
  constructor
  · intro h
    refine ⟨(keepsE_iff hb hp).2 fun i rule hi hr => h i rule hi (by omega), fun i hi => ?_, fun i hi => ?_⟩
    · unfold In at hi
      have := h i.toNat 1 (by omega) (by omega)
      rw [kept_one, decide_eq_true_eq] at this
      unfold r0 val; omega
    · have := h i 2 hi (by omega)
      rw [kept_two, decide_eq_true_eq] at this
      rw [val_nat]; exact this
  · rintro ⟨h1, h2, h3⟩ i rule hi hr
    by_cases hr1 : rule = 1
    · subst hr1
      rw [kept_one, decide_eq_true_eq]
      have := h2 i ⟨by omega, by omega⟩
      rw [val_nat] at this
      unfold r0 at this
      rw [Int.toNat_natCast] at this; omega
    · by_cases hr2 : rule = 2
      · subst hr2
        rw [kept_two, decide_eq_true_eq]
        have := h3 i hi
        rw [val_nat] at this; exact this
      · exact (keepsE_iff hb hp).1 h1 i rule hi (by omega)

/-- r is the outermost cut -/
structure Top (b : Blank) (l : List Pt) (r : List Int) : Prop where
  len : r.length = l.length
  keeps : Keeps b l (val r)
  most : ∀ r', Keeps b l r' → ∀ i, In l.length i → r' i ≤ val r i
theorem Top.unique {b : Blank} {l : List Pt} {r r' : List Int} (h : Top b l r) (h' : Top b l r') : r = r' := by
  apply List.ext_getElem (by rw [h.len, h'.len])
  intro i h1 h2
  have hi : In l.length (i : Int) := ⟨by omega, by have := h.len; omega⟩
  have e1 := h.most _ h'.keeps i hi
  have e2 := h'.most _ h.keeps i hi
  simp only [val, Int.toNat_natCast, List.getD, List.getElem?_eq_getElem h1, List.getElem?_eq_getElem h2, Option.getD_some] at e1 e2
  omega
theorem outer_top {b : Blank} {l : List Pt} (hb : b.ok = true) (hp : PtB l) : (∃ r, outer b l = some r ∧ Top b l r) ∨ (outer b l = none ∧ ¬ ∃ r, Keeps b l r) := by
  rcases greatest_best hb hp with ⟨r, hg, hbest⟩ | ⟨hg, hno⟩
  · by_cases hc : coreAll b l r = true
    · left
      refine ⟨r, by unfold outer; rw [hg]; simp [hc], hbest.len, ⟨hbest.keeps, hbest.rim, fun i hi => by rw [val_nat]; exact coreAll_iff.1 hc i hi⟩, fun r' hr' i hi => hbest.most r' hr'.edges hr'.rim i hi⟩
    · right
      refine ⟨by unfold outer; rw [hg]; simp [hc], fun ⟨r', hr'⟩ => hc (coreAll_iff.2 fun i hi => ?_)⟩
      have h1 := hbest.most r' hr'.edges hr'.rim i ⟨by omega, by omega⟩
      have h2 := hr'.core i hi
      rw [val_nat] at h1; omega
  · exact .inr ⟨outer_none hg, fun ⟨r', hr'⟩ => hno ⟨r', hr'.edges⟩⟩
theorem outer_of_top {b : Blank} {l : List Pt} {r : List Int} (hb : b.ok = true) (hp : PtB l) (h : Top b l r) : outer b l = some r := by
  rcases outer_top hb hp with ⟨r', h1, h2⟩ | ⟨_, h2⟩
  · rw [h1, h2.unique h]
  · exact absurd ⟨_, h.keeps⟩ h2
theorem outer_of_keeps {b : Blank} {l : List Pt} {r : Int → Int} (hb : b.ok = true) (hp : PtB l) (h : Keeps b l r) : ∃ r', outer b l = some r' ∧ Top b l r' := by
  rcases outer_top hb hp with h1 | ⟨_, h2⟩
  · exact h1
  · exact absurd ⟨_, h⟩ h2
/-- a cut that keeps the rules is in bounds -/
theorem keeps_rOk {b : Blank} {l : List Pt} {r : List Int} (hb : b.ok = true) (hp : PtB l) (hrl : r.length = l.length) (h : Keeps b l (val r)) : r.all rOk = true := by
  rw [Blank.ok_iff] at hb
  rw [List.all_eq_true]
  intro x hx
  obtain ⟨i, hi, rfl⟩ := List.getElem_of_mem hx
  have h1 := h.rim i ⟨by omega, by omega⟩
  have h2 := h.core i (by omega)
  have h3 := hp i (by omega)
  rw [val_nat] at h1 h2
  unfold r0 at h1
  rw [Int.toNat_natCast] at h1
  simp only [List.getD, List.getElem?_eq_getElem hi, Option.getD_some] at h1 h2 h3
  unfold rOk; rw [betw_iff]
  have h4 : (l[i]?.getD default) = (l.getD i default) := rfl
  omega
theorem cutRes_zero {b : Blank} {l : List Pt} {r : List Int} (he : both b l = 0) : (cutRes b l r).2.2 = 0 ↔ r.length = l.length ∧ Keeps b l (val r) := by
  obtain ⟨hb, hl, hpt⟩ := both_zero.1 he
  have hp := ptB_of hpt
  constructor
  · intro h
    by_cases hc : cutE b l r = 0
    · obtain ⟨_, hrl, _⟩ := cutE_zero.1 hc
      refine ⟨hrl, (firstBad_iff hb hp).1 ?_⟩
      cases hf : firstBad b l r with
      | none => rfl
      | some s => rw [cutRes_some hc hf] at h; cases h
    · rw [cutRes_err hc] at h; exact absurd h hc
  · rintro ⟨hrl, hk⟩
    have hc : cutE b l r = 0 := cutE_zero.2 ⟨he, hrl, keeps_rOk hb hp hrl hk⟩
    rw [cutRes_none hc ((firstBad_iff hb hp).2 hk)]
theorem outer_cutRes {b : Blank} {l : List Pt} {r : List Int} (he : both b l = 0) (h : outer b l = some r) : r.length = l.length ∧ (cutRes b l r).2.2 = 0 := by
  obtain ⟨hb, hl, hpt⟩ := both_zero.1 he
  rcases outer_top hb (ptB_of hpt) with ⟨r', h1, h2⟩ | ⟨h1, _⟩
  · rw [h1] at h; cases h
    exact ⟨h2.len, (cutRes_zero he).2 ⟨h2.len, h2.keeps⟩⟩
  · rw [h1] at h; cases h
theorem outer_no_cut {b : Blank} {l : List Pt} {r : List Int} (he : both b l = 0) (h : outer b l = none) : (cutRes b l r).2.2 ≠ 0 := by
  obtain ⟨hb, hl, hpt⟩ := both_zero.1 he
  intro hz
  obtain ⟨r', h1, _⟩ := outer_of_keeps hb (ptB_of hpt) ((cutRes_zero he).1 hz).2
  rw [h1] at h; cases h
theorem outer_above {b : Blank} {l : List Pt} {r R : List Int} (he : both b l = 0) (h : outer b l = some R) (hz : (cutRes b l r).2.2 = 0) : ∀ i, i < l.length → r.getD i default ≤ R.getD i default := by
  obtain ⟨hb, hl, hpt⟩ := both_zero.1 he
  obtain ⟨hrl, hk⟩ := (cutRes_zero he).1 hz
  rcases outer_top hb (ptB_of hpt) with ⟨r', h1, h2⟩ | ⟨h1, _⟩
  · rw [h1] at h; cases h
    intro i hi
    have := h2.most _ hk i ⟨by omega, by omega⟩
    rwa [val_nat, val_nat] at this
  · rw [h1] at h; cases h
theorem outE_ne {b : Blank} {l : List Pt} (he : both b l = 0) (h : outE b l ≠ 0) : outer b l = none ∧ outE b l = 15 ∧ outR b l = [] := by
  cases ho : outer b l with
  | none => exact ⟨rfl, outE_none he ho⟩
  | some r => exact absurd (outE_of he ho).1 h
theorem outE_eq {b : Blank} {l : List Pt} (he : both b l = 0) (h : outE b l = 0) : outer b l = some (outR b l) := by
  cases ho : outer b l with
  | none => rw [(outE_none he ho).1] at h; cases h
  | some r => rw [(outE_of he ho).2]
theorem of_valid {b : Blank} {l : List Pt} (h : (decide (l.length ≤ 40) && decide (both b l = 0)) = true) : l.length ≤ 40 ∧ both b l = 0 := by simpa using h
end Go.Proofs.YtogljfjbilndnaaGreatDoor.Lathe
/- A groove without a signal on a blank: its outermost cut, in plain Lean. -/
namespace Go.Proofs.YtogljfjbilndnaaGreatDoor.Lathe
open Go.Sx

def silL (h : Int) (n : Nat) : List Pt := List.replicate n ⟨-h, h⟩
def tpB (q O C d : Int) : Blank := ⟨q, O, C, d, 0, 65536⟩
/-- where a sample of a groove without a signal lies -/
def tpR (O h p q i : Int) : Int := O - h - p * (i / q)
def tpL (O h p q : Int) (n : Nat) : List Int := (List.range n).map fun (i : Nat) => tpR O h p q i
theorem tpL_len (O h p q : Int) (n : Nat) : (tpL O h p q n).length = n := by simp [tpL]
theorem tpL_get {O h p q : Int} {n i : Nat} (hi : i < n) : (tpL O h p q n).getD i default = tpR O h p q i := by simp [tpL, List.getD, hi]
theorem tpL_val {O h p q : Int} {n : Nat} {i : Int} (hi : 0 ≤ i ∧ i < n) : val (tpL O h p q n) i = tpR O h p q i := by
  unfold val
  rw [tpL_get (by omega), Int.toNat_of_nonneg hi.1]
theorem sil_get {h : Int} {n i : Nat} (hi : i < n) : (silL h n).getD i default = ⟨-h, h⟩ := by simp [silL, List.getD, hi]
theorem div_step {i q : Int} (hq : 1 ≤ q) : i / q = (i - q) / q + 1 := by
  have h := Int.add_ediv_of_dvd_right (a := i - q) (b := q) (c := q) (Int.dvd_refl q)
  rw [Int.sub_add_cancel, Int.ediv_self (by omega)] at h
  exact h
theorem tpR_step {O h p q i : Int} (hq : 1 ≤ q) : tpR O h p q i = tpR O h p q (i - q) - p := by
  unfold tpR
  rw [div_step hq, Int.mul_add]; omega
theorem tpR_mono {O h p q i j : Int} (hq : 1 ≤ q) (hp : 0 ≤ p) (h1 : i ≤ j) : tpR O h p q j ≤ tpR O h p q i := by
  unfold tpR
  have h2 : p * (i / q) ≤ p * (j / q) := Int.mul_le_mul_of_nonneg_left (Int.ediv_le_ediv (show 0 < q by omega) h1) hp
  omega
theorem tpR_next {O h p q i : Int} (hq : 1 ≤ q) (hp : 0 ≤ p) : tpR O h p q (i - 1) ≤ tpR O h p q i + p := by
  have h1 := tpR_step (O := O) (h := h) (p := p) (i := i) hq
  have h2 := tpR_mono (O := O) (h := h) (p := p) (i := i - q) (j := i - 1) hq hp (by omega)
  omega
section
variable {q O C d h : Int} {n : Nat}
structure TpIn (q O C d h : Int) (n : Nat) : Prop where
  q1 : 1 ≤ q ∧ q ≤ 16
  h1 : 1 ≤ h ∧ h ≤ 1000
  d1 : 0 ≤ d ∧ d ≤ 1000
  n1 : 1 ≤ n ∧ n ≤ 60
  o1 : 1 ≤ O ∧ O ≤ 65536
  c1 : 0 ≤ C ∧ C ≤ O
theorem TpIn.ok (I : TpIn q O C d h n) : (tpB q O C d).ok = true := by
  obtain ⟨h1, h2, h3, h4, h5, h6⟩ := I
  rw [Blank.ok_iff]; unfold tpB; dsimp only; omega
theorem TpIn.pts (I : TpIn q O C d h n) : (silL h n).all ptOk = true := by
  rw [List.all_eq_true]
  intro x hx
  obtain ⟨_, rfl⟩ := List.mem_replicate.1 hx
  have := I.h1
  unfold ptOk
  rw [Bool.and_eq_true, betw_iff, betw_iff]; dsimp only; omega
theorem sil_len (h : Int) (n : Nat) : (silL h n).length = n := List.length_replicate
theorem TpIn.both (I : TpIn q O C d h n) : both (tpB q O C d) (silL h n) = 0 := both_zero.2 ⟨I.ok, by rw [sil_len]; have := I.n1; omega, I.pts⟩
theorem keeps_below (I : TpIn q O C d h n) {r : Int → Int} (hk : Keeps (tpB q O C d) (silL h n) r) : ∀ (k : Nat), k < n → r k ≤ tpR O h (2 * h + d) q k := by
  have hq := I.q1
  intro k
  induction k using Nat.strongRecOn with
  | _ k ih =>
    intro hkn
    have hin : In (silL h n).length (k : Int) := by rw [sil_len]; exact ⟨by omega, by omega⟩
    by_cases e : (k : Int) < q
    · have h1 := hk.rim k hin
      have e0 : (k : Int) / q = 0 := Int.ediv_eq_zero_of_lt (by omega) e
      unfold r0 at h1
      rw [Int.toNat_natCast, sil_get hkn] at h1
      unfold tpR; rw [e0, Int.mul_zero]
      dsimp only [tpB] at h1; omega
    · obtain ⟨j, hj⟩ : ∃ j : Nat, (j : Int) = k - q := ⟨(k - q).toNat, by omega⟩
      have h1 := hk.edges (edgeOf (tpB q O C d) (silL h n) 5 k).1 ⟨5, k, .inr (.inr rfl), hin, by rw [edgeOf_five hin, if_neg (show ¬ (k : Int) < (tpB q O C d).per from e)], rfl⟩
      rw [edgeOf_five hin, if_neg (show ¬ (k : Int) < (tpB q O C d).per from e)] at h1
      have h2 := ih j (by omega) (by omega)
      have ej : ((k : Int) - (tpB q O C d).per).toNat = j := by show ((k : Int) - q).toNat = j; omega
      dsimp only at h1
      rw [ej, sil_get (by omega), Int.toNat_natCast, sil_get hkn] at h1
      have e3 := tpR_step (O := O) (h := h) (p := 2 * h + d) (i := k) hq.1
      rw [← hj] at e3
      have e4 : r ((k : Int) - (tpB q O C d).per) = r j := by rw [hj]; rfl
      rw [e4] at h1
      dsimp only [tpB] at h1
      omega
theorem tp_keeps (I : TpIn q O C d h n) (hf : C ≤ tpR O h (2 * h + d) q ((n : Int) - 1) - h) : Keeps (tpB q O C d) (silL h n) (val (tpL O h (2 * h + d) q n)) := by
  have hq := I.q1
  have hh := I.h1
  have hd := I.d1
  have hl := sil_len h n
  refine ⟨?_, fun i hi => ?_, fun i hi => ?_⟩
  · rintro x ⟨rule, i, hr, hi, hfl, rfl⟩
    have hi2 := hi
    unfold In at hi2
    rw [hl] at hi2
    rcases hr with rfl | rfl | rfl
    · rw [edgeOf_three hi] at hfl ⊢
      have h0 : 0 < i := by simpa using hfl
      dsimp only
      rw [tpL_val ⟨by omega, by omega⟩, tpL_val ⟨by omega, by omega⟩]
      have := tpR_mono (O := O) (h := h) (p := 2 * h + d) (i := i - 1) (j := i) hq.1 (by omega) (by omega)
      show _ ≤ _ + (0 - 0); omega
    · rw [edgeOf_four hi] at hfl ⊢
      have h0 : 0 < i := by simpa using hfl
      dsimp only
      rw [tpL_val ⟨by omega, by omega⟩, tpL_val ⟨by omega, by omega⟩]
      have := tpR_next (O := O) (h := h) (p := 2 * h + d) (i := i) hq.1 (by omega)
      show _ ≤ _ + 65536; omega
    · rw [edgeOf_five hi] at hfl ⊢
      split at hfl
      · cases hfl
      · rename_i hc
        have hc2 : ¬ i < q := hc
        rw [if_neg hc]
        dsimp only
        have e1 : (i - (tpB q O C d).per) = i - q := rfl
        rw [e1, tpL_val ⟨by omega, by omega⟩, tpL_val ⟨by omega, by omega⟩, sil_get (by omega), sil_get (by omega)]
        have := tpR_step (O := O) (h := h) (p := 2 * h + d) (i := i) hq.1
        show _ ≤ _ + (-h - h - d); omega
  · have hi2 := hi
    unfold In at hi2
    rw [hl] at hi2
    rw [tpL_val ⟨by omega, by omega⟩]
    unfold r0
    rw [sil_get (by omega)]
    have := tpR_mono (O := O) (h := h) (p := 2 * h + d) (i := 0) (j := i) hq.1 (by omega) (by omega)
    have e0 : tpR O h (2 * h + d) q 0 = O - h := by unfold tpR; rw [Int.zero_ediv, Int.mul_zero]; omega
    show _ ≤ O - h; omega
  · rw [hl] at hi
    rw [tpL_val ⟨by omega, by omega⟩, sil_get hi]
    have := tpR_mono (O := O) (h := h) (p := 2 * h + d) (i := i) (j := (n : Int) - 1) hq.1 (by omega) (by omega)
    show C ≤ _ + (-h); omega
theorem tp_outer (I : TpIn q O C d h n) (hf : C ≤ tpR O h (2 * h + d) q ((n : Int) - 1) - h) : outer (tpB q O C d) (silL h n) = some (tpL O h (2 * h + d) q n) := by
  refine outer_of_top I.ok (ptB_of I.pts) ⟨by rw [tpL_len, sil_len], tp_keeps I hf, fun r' hr' i hi => ?_⟩
  have hi2 := hi
  unfold In at hi2
  rw [sil_len] at hi2
  have := keeps_below I hr' i.toNat (by omega)
  rw [Int.toNat_of_nonneg hi2.1] at this
  rw [tpL_val ⟨by omega, by omega⟩]; exact this
theorem tp_none (I : TpIn q O C d h n) (hf : ¬ C ≤ tpR O h (2 * h + d) q ((n : Int) - 1) - h) : outer (tpB q O C d) (silL h n) = none := by
  have hn := I.n1
  rcases outer_top I.ok (ptB_of I.pts) with ⟨r, _, ht⟩ | ⟨h1, _⟩
  · exfalso
    have h1 := keeps_below I ht.keeps (n - 1) (by omega)
    have h2 := ht.keeps.core (n - 1) (by rw [sil_len]; omega)
    rw [sil_get (by omega)] at h2
    have e : ((n - 1 : Nat) : Int) = (n : Int) - 1 := by omega
    rw [e] at h1 h2
    dsimp only [tpB] at h2
    omega
  · exact h1
/-- how wide the track is -/
def tpW (h d q : Int) (n : Nat) : Int := (2 * h + d) * (((n : Int) + q - 1) / q)
theorem tp_last (I : TpIn q O C d h n) : tpR O h (2 * h + d) q ((n : Int) - 1) - h - d = O - tpW h d q n := by
  have hq := I.q1
  unfold tpR tpW
  have := div_step (i := (n : Int) + q - 1) hq.1
  rw [show (n : Int) + q - 1 - q = n - 1 by omega] at this
  rw [this, Int.mul_add]; omega
end
end Go.Proofs.YtogljfjbilndnaaGreatDoor.Lathe
/- the reference's greatest radii, walked -/
namespace Go.Proofs.YtogljfjbilndnaaGreatDoor.Lathe
open Go.Sx Go.Proofs

end Go.Proofs.YtogljfjbilndnaaGreatDoor.Lathe
/- The outermost cut of the lathe and of the reference, walked. -/
namespace Go.Proofs.YtogljfjbilndnaaGreatDoor.Lathe
open Go.Sx Go.Proofs

theorem SideAt.of {w0 w : World} {M : Nat → Prop} {H : Items} {bs c : Nat} {b : Blank} {A : Option Addr} {l : List Pt} (m : SH w0 M H w) [h : HFind bs H (blk (sideCells b A l c) 102)] : SideAt w bs b A l c := (m.item _ h.mem).2

theorem C_lathe_newSide_err {b : Blank} {A : Option Addr} {l : List Pt} {c : Nat} {w : World} (hp : RdL w 2 ePt A l) (hne : both b l ≠ 0) : Con0 Tryz.prog 16 [b.val, .slice A l.length c] w (.tuple #[.pointer none, I (both b l)]) := by
  refine Ret_of (vs := [_, _]) hm none' Tryz.func16 rfl Tryz.ntmps16 rfl ?_
  dsimp only [slotsOf]
  refine GE_seq ?_
  refine GE_plain (.ld 0 [] (.st 1 (.st 2 .nil))) rfl ?_
  refine GT_box (z := [_, _, _, _, _, _]) rfl rfl rfl rfl rfl rfl rfl (fun _ => GR_nil) (fun b2 => ?_)
  refine GT_st rfl rfl rfl rfl (V_assign rfl rfl) ?_
  refine GT_st rfl rfl rfl rfl (V_assign rfl rfl) ?_
  refine GT_nil ?_
  refine GE_seq ?_
  refine GE_seq ?_
  refine GE_plain (.st 0 (.ld 1 [] (.st 2 .nil))) rfl ?_
  refine GT_st rfl rfl rfl rfl (V_loadN (vs := [_, _, _, _, _, _]) rfl rfl ag_28 sz_28 rfl (CellsAt.item rfl)) ?_
  refine GT_call0 rfl rfl rfl rfl rfl rfl rfl rfl rn_31 (fun w hw => C_lathe_Check (b := b)) (GR_nil) ?_
  refine GT_st rfl rfl rfl rfl (V_assign rfl rfl) ?_
  refine GT_nil ?_
  refine GE_seq ?_
  refine GE_slots (L' := [(1, _), (2, _), (6, _)]) ⟨rfl, rfl, rfl, trivial⟩ ?_
  refine GE_plain (.st 0 (.st 1 .nil)) rfl ?_
  refine GT_st rfl rfl rfl rfl (V_move rfl rfl) ?_
  refine GT_st rfl rfl rfl rfl (V_neq rfl rfl rfl) ?_
  refine GT_nil ?_
  first | refine GE_condNot rfl (fun h1 => ?_) (fun h1 => ?_) | refine GE_cond rfl (fun h1 => ?_) (fun h1 => ?_) | refine GE_condNotB rfl (fun h1 => ?_) (fun h1 => ?_) | refine GE_condB rfl (fun h1 => ?_) (fun h1 => ?_)
  · have hb := Blank.check_ne.1 h1; have he := both_bad (l := l) hb; have he2 := Blank.check_of hb
    refine GE_seq ?_
    refine GE_slots (L' := [(6, _)]) ⟨rfl, trivial⟩ ?_
    refine GE_plain (.st 0 (.st 1 (.st 2 .nil))) rfl ?_
    refine GT_st rfl rfl rfl rfl (V_move rfl rfl) ?_
    refine GT_st rfl rfl rfl rfl (V_assign rfl rfl) ?_
    refine GT_st rfl rfl rfl rfl (V_assign rfl rfl) ?_
    refine GT_nil ?_
    refine GE_ret Tryz.func16 ⟨_, _, rfl, rfl, rfl⟩ (fun w hw => ⟨?_, hw.nil⟩)
    first | rw [he, he2] | rw [he]
  · have hb : b.ok = true := (by cases hk : b.ok with | true => rfl | false => exact absurd (Blank.check_of hk) (by omega)); have he := both_ok (l := l) hb; rw [he] at hne
    refine GE_skip ?_
    refine GE_seq ?_
    refine GE_seq ?_
    refine GE_plain (.st 0 (.ld 1 [] (.st 2 .nil))) rfl ?_
    refine GT_st rfl rfl rfl rfl (V_move rfl rfl) ?_
    refine GT_call0 rfl rfl rfl rfl rfl rfl rfl rfl rn_32 (fun w hw => C_groove_CheckPoints (hp.sh hw)) (GR_nil) ?_
    refine GT_st rfl rfl rfl rfl (V_assign rfl rfl) ?_
    refine GT_nil ?_
    refine GE_seq ?_
    refine GE_slots (L' := [(1, _), (2, _), (7, _)]) ⟨rfl, rfl, rfl, trivial⟩ ?_
    refine GE_plain (.st 0 (.st 1 .nil)) rfl ?_
    refine GT_st rfl rfl rfl rfl (V_move rfl rfl) ?_
    refine GT_st rfl rfl rfl rfl (V_neq rfl rfl rfl) ?_
    refine GT_nil ?_
    first | refine GE_condNot rfl (fun h2 => ?_) (fun h2 => ?_) | refine GE_cond rfl (fun h2 => ?_) (fun h2 => ?_) | refine GE_condNotB rfl (fun h2 => ?_) (fun h2 => ?_) | refine GE_condB rfl (fun h2 => ?_) (fun h2 => ?_)
    · skip
      refine GE_seq ?_
      refine GE_slots (L' := [(7, _)]) ⟨rfl, trivial⟩ ?_
      refine GE_plain (.st 0 (.st 1 (.st 2 .nil))) rfl ?_
      refine GT_st rfl rfl rfl rfl (V_move rfl rfl) ?_
      refine GT_st rfl rfl rfl rfl (V_assign rfl rfl) ?_
      refine GT_st rfl rfl rfl rfl (V_assign rfl rfl) ?_
      refine GT_nil ?_
      refine GE_ret Tryz.func16 ⟨_, _, rfl, rfl, rfl⟩ (fun w hw => ⟨?_, hw.nil⟩)
      first | rw [he, he2] | rw [he]
    · exact absurd (by omega) hne

theorem C_lathe_newSide_ok {b : Blank} {A : Option Addr} {l : List Pt} {c : Nat} {w : World} (hp : RdL w 2 ePt A l) (he : both b l = 0) : Con Tryz.prog 16 [b.val, .slice A l.length c] w (fun _ : Nat => True) (fun bs => .tuple #[ptr bs 0, I 0]) (fun bs => [(bs, blk (sideCells b A l c) 102)]) := by
  obtain ⟨hb, h3, h4⟩ := both_zero.1 he
  rw [both_ok hb] at he
  refine Ret_of (vs := [_, _]) hm none' Tryz.func16 rfl Tryz.ntmps16 rfl ?_
  dsimp only [slotsOf]
  refine GE_seq ?_
  refine GE_plain (.ld 0 [] (.st 1 (.st 2 .nil))) rfl ?_
  refine GT_box (z := [_, _, _, _, _, _]) rfl rfl rfl rfl rfl rfl rfl (fun _ => GR_nil) (fun b2 => ?_)
  refine GT_st rfl rfl rfl rfl (V_assign rfl rfl) ?_
  refine GT_st rfl rfl rfl rfl (V_assign rfl rfl) ?_
  refine GT_nil ?_
  refine GE_seq ?_
  refine GE_seq ?_
  refine GE_plain (.st 0 (.ld 1 [] (.st 2 .nil))) rfl ?_
  refine GT_st rfl rfl rfl rfl (V_loadN (vs := [_, _, _, _, _, _]) rfl rfl ag_28 sz_28 rfl (CellsAt.item rfl)) ?_
  refine GT_call0 rfl rfl rfl rfl rfl rfl rfl rfl rn_31 (fun w hw => C_lathe_Check (b := b)) (GR_nil) ?_
  refine GT_st rfl rfl rfl rfl (V_assign rfl rfl) ?_
  refine GT_nil ?_
  refine GE_seq ?_
  refine GE_slots (L' := [(1, _), (2, _), (6, _)]) ⟨rfl, rfl, rfl, trivial⟩ ?_
  refine GE_plain (.st 0 (.st 1 .nil)) rfl ?_
  refine GT_st rfl rfl rfl rfl (V_move rfl rfl) ?_
  refine GT_st rfl rfl rfl rfl (V_neq rfl rfl rfl) ?_
  refine GT_nil ?_
  first | refine GE_condNot rfl (fun h1 => ?_) (fun h1 => ?_) | refine GE_cond rfl (fun h1 => ?_) (fun h1 => ?_) | refine GE_condNotB rfl (fun h1 => ?_) (fun h1 => ?_) | refine GE_condB rfl (fun h1 => ?_) (fun h1 => ?_)
  · exact absurd (Blank.check_ne.1 h1) (by rw [hb]; decide)
  · skip
    refine GE_skip ?_
    refine GE_seq ?_
    refine GE_seq ?_
    refine GE_plain (.st 0 (.ld 1 [] (.st 2 .nil))) rfl ?_
    refine GT_st rfl rfl rfl rfl (V_move rfl rfl) ?_
    refine GT_call0 rfl rfl rfl rfl rfl rfl rfl rfl rn_32 (fun w hw => C_groove_CheckPoints (hp.sh hw)) (GR_nil) ?_
    refine GT_st rfl rfl rfl rfl (V_assign rfl rfl) ?_
    refine GT_nil ?_
    refine GE_seq ?_
    refine GE_slots (L' := [(1, _), (2, _), (7, _)]) ⟨rfl, rfl, rfl, trivial⟩ ?_
    refine GE_plain (.st 0 (.st 1 .nil)) rfl ?_
    refine GT_st rfl rfl rfl rfl (V_move rfl rfl) ?_
    refine GT_st rfl rfl rfl rfl (V_neq rfl rfl rfl) ?_
    refine GT_nil ?_
    first | refine GE_condNot rfl (fun h2 => ?_) (fun h2 => ?_) | refine GE_cond rfl (fun h2 => ?_) (fun h2 => ?_) | refine GE_condNotB rfl (fun h2 => ?_) (fun h2 => ?_) | refine GE_condB rfl (fun h2 => ?_) (fun h2 => ?_)
    · exact absurd he h2
    · skip
      refine GE_skip ?_
      refine GE_seq ?_
      refine GE_plain (.st 0 (.st 1 (.st 2 (.st 3 (.st 4 (.ld 5 [] (.st 6 (.st 7 .nil)))))))) rfl ?_
      refine GT_st rfl rfl rfl rfl (V_loadN (vs := [_, _, _, _, _, _]) rfl rfl ag_28 sz_28 rfl (CellsAt.item rfl)) ?_
      refine GT_st rfl rfl rfl rfl (V_move rfl rfl) ?_
      first | refine GT_st rfl rfl rfl rfl (V_field rfl rfl fo_28_0) ?_ | refine GT_st rfl rfl rfl rfl (V_fieldA rfl rfl fo_28_0) ?_
      refine GT_st rfl rfl rfl rfl (V_load rfl rfl ag_2 (CellAt.item rfl)) ?_
      refine GT_st rfl rfl rfl rfl (V_build (vs := [_, _, _, _, _, _, _, _]) rfl rfl zc_102 pl_102 sa_102 rfl) ?_
      refine GT_box (z := [_, _, _, _, _, _, _, _]) rfl rfl rfl rfl rfl rfl rfl (fun _ => GR_nil) (fun b23 => ?_)
      refine GT_st rfl rfl rfl rfl (V_assign rfl rfl) ?_
      refine GT_st rfl rfl rfl rfl (V_assign rfl rfl) ?_
      refine GT_nil ?_
      refine GE_ret Tryz.func16 ⟨_, _, rfl, rfl, rfl⟩ (fun w hw => ⟨b23, trivial, rfl, (show SH _ _ [(b23, blk [I b.per, I b.rim, I b.core, I b.land, I b.slow, I b.fast, .slice A l.length c, I b.per] 102)] _ from hw.chunk)⟩)
      skip

theorem C_lathe_Outermost {b : Blank} {A : Option Addr} {l : List Pt} {c : Nat} {w : World} (hp : RdL w 2 ePt A l) :
    Con Tryz.prog 7 [b.val, .slice A l.length c] w (fun y : Option Addr × Nat × Items => Own 1 2 eI (outR b l) (.slice y.1 (outR b l).length y.2.1) y.2.2) (fun y => .tuple #[.slice y.1 (outR b l).length y.2.1, I (outE b l)]) (fun y => y.2.2) := by
  by_cases he : both b l = 0
  · obtain ⟨hb, h3, h4⟩ := both_zero.1 he
    have hpb := ptB_of h4
    refine Ret_of (vs := [_, _]) hm none' Tryz.func7 rfl Tryz.ntmps7 rfl ?_
    dsimp only [slotsOf]
    refine GE_seq ?_
    refine GE_plain (.ld 0 [] (.st 1 (.st 2 .nil))) rfl ?_
    refine GT_box (z := [_, _, _, _, _, _]) rfl rfl rfl rfl rfl rfl rfl (fun _ => GR_nil) (fun b2 => ?_)
    refine GT_st rfl rfl rfl rfl (V_assign rfl rfl) ?_
    refine GT_st rfl rfl rfl rfl (V_assign rfl rfl) ?_
    refine GT_nil ?_
    refine GE_seq ?_
    refine GE_plain (.st 0 (.st 1 (.ld 2 [] (.st 3 (.st 4 (.st 5 (.st 6 (.st 7 .nil)))))))) rfl ?_
    refine GT_st rfl rfl rfl rfl (V_loadN (vs := [_, _, _, _, _, _]) rfl rfl ag_28 sz_28 rfl (CellsAt.item rfl)) ?_
    refine GT_st rfl rfl rfl rfl (V_move rfl rfl) ?_
    refine GT_call rfl rfl rfl rfl rfl rfl rfl rfl rn_16 (fun w hw => C_lathe_newSide_ok (hp.sh hw) he) (fun _ _ => GR_nil) (fun bs _ => ?_)
    refine GT_st rfl rfl rfl rfl (V_move rfl rfl) ?_
    refine GT_st rfl rfl rfl rfl (V_extract rfl rfl rfl) ?_
    refine GT_st rfl rfl rfl rfl (V_extract rfl rfl rfl) ?_
    refine GT_st rfl rfl rfl rfl (V_assign rfl rfl) ?_
    refine GT_st rfl rfl rfl rfl (V_assign rfl rfl) ?_
    refine GT_nil ?_
    refine GE_seq ?_
    refine GE_seq ?_
    refine GE_slots (L' := [(6, _), (7, _)]) ⟨rfl, rfl, trivial⟩ ?_
    refine GE_plain (.st 0 (.st 1 .nil)) rfl ?_
    refine GT_st rfl rfl rfl rfl (V_move rfl rfl) ?_
    refine GT_st rfl rfl rfl rfl (V_neq rfl rfl rfl) ?_
    refine GT_nil ?_
    first | refine GE_condNot rfl (fun h1 => ?_) (fun h1 => ?_) | refine GE_cond rfl (fun h1 => ?_) (fun h1 => ?_) | refine GE_condNotB rfl (fun h1 => ?_) (fun h1 => ?_) | refine GE_condB rfl (fun h1 => ?_) (fun h1 => ?_)
    · exact absurd rfl h1
    · skip
      refine GE_skip ?_
      refine GE_seq ?_
      refine GE_plain (.st 0 (.ld 1 [] (.ld 2 [] (.ld 3 [] .nil)))) rfl ?_
      refine GT_st rfl rfl rfl rfl (V_move rfl rfl) ?_
      refine GT_call rfl rfl rfl rfl rfl rfl rfl rfl rn_17 (fun w hw => C_lathe_search (SideAt.of hw) (hp.sh hw) hb h3 h4) (fun _ _ => GR_nil) (fun y hy => ?_)
      obtain ⟨rad, st, ⟨A1, c1, I1⟩, A2, c2, I2⟩ := y; obtain ⟨hS, hO1, hO2⟩ := hy; dsimp only at hS hO1 hO2 ⊢
      refine GT_alloc rfl rfl rfl rfl rfl zc_63 (fun _ => GR_nil) (fun b8 => ?_)
      refine GT_store (vs := [_, _]) (l' := [_, _]) rfl rfl rfl rfl rfl rfl rfl sz_63 rfl rfl (Nat.le_of_ble_eq_true rfl) rfl (GR_nil) ?_
      refine GT_nil ?_
      refine GE_seq ?_
      refine GE_seq ?_
      refine GE_slots (L' := [(8, _)]) ⟨rfl, trivial⟩ ?_
      refine GE_plain (.st 0 (.st 1 (.st 2 (.st 3 .nil)))) rfl ?_
      first | refine GT_st rfl rfl rfl rfl (V_field rfl rfl fo_63_1) ?_ | refine GT_st rfl rfl rfl rfl (V_fieldA rfl rfl fo_63_1) ?_
      refine GT_st rfl rfl rfl rfl (V_load rfl rfl ag_45 (CellAt.item rfl)) ?_
      refine GT_st rfl rfl rfl rfl (V_len rfl Tryz.underlying45 rfl) ?_
      refine GT_st rfl rfl rfl rfl (V_gtr rfl rfl rfl) ?_
      refine GT_nil ?_
      first | refine GE_condNot rfl (fun h5 => ?_) (fun h5 => ?_) | refine GE_cond rfl (fun h5 => ?_) (fun h5 => ?_) | refine GE_condNotB rfl (fun h5 => ?_) (fun h5 => ?_) | refine GE_condB rfl (fun h5 => ?_) (fun h5 => ?_)
      · skip
        refine GE_seq ?_
        refine GE_slots (L' := []) trivial ?_
        refine GE_plain (.st 0 (.st 1 .nil)) rfl ?_
        refine GT_st rfl rfl rfl rfl (V_assign rfl rfl) ?_
        refine GT_st rfl rfl rfl rfl (V_assign rfl rfl) ?_
        refine GT_nil ?_
        refine GE_ret Tryz.func7 ⟨_, _, rfl, rfl, rfl⟩ (fun w hw => ?_)
        rcases search_outer hb hpb hS with ⟨rfl, _⟩ | ⟨_, g2⟩; exact absurd h5 (by simp); obtain ⟨e1, e2⟩ := outE_none he g2; exact ⟨(none, 0, []), by rw [e2]; exact Own.nil, by rw [e1, e2]; rfl, hw.nil⟩
      · skip
        refine GE_skip ?_
        refine GE_seq ?_
        refine GE_slots (L' := [(8, _)]) ⟨rfl, trivial⟩ ?_
        refine GE_plain (.st 0 (.st 1 (.st 2 (.st 3 .nil)))) rfl ?_
        first | refine GT_st rfl rfl rfl rfl (V_field rfl rfl fo_63_0) ?_ | refine GT_st rfl rfl rfl rfl (V_fieldA rfl rfl fo_63_0) ?_
        refine GT_st rfl rfl rfl rfl (V_load rfl rfl ag_38 (CellAt.item rfl)) ?_
        refine GT_st rfl rfl rfl rfl (V_assign rfl rfl) ?_
        refine GT_st rfl rfl rfl rfl (V_assign rfl rfl) ?_
        refine GT_nil ?_
        refine GE_ret Tryz.func7 ⟨_, _, rfl, rfl, rfl⟩ (fun w hw => ?_)
        rcases search_outer hb hpb hS with ⟨_, g2⟩ | ⟨g1, _⟩; obtain ⟨e1, e2⟩ := outE_of he g2; exact ⟨(A1, c1, I1), by rw [e2]; exact hO1, by rw [e1, e2], hw.chunk⟩; exact absurd g1 (by omega)
  · obtain ⟨e1, e2⟩ := outE_err he
    refine Ret_of (vs := [_, _]) hm none' Tryz.func7 rfl Tryz.ntmps7 rfl ?_
    dsimp only [slotsOf]
    refine GE_seq ?_
    refine GE_plain (.ld 0 [] (.st 1 (.st 2 .nil))) rfl ?_
    refine GT_box (z := [_, _, _, _, _, _]) rfl rfl rfl rfl rfl rfl rfl (fun _ => GR_nil) (fun b2 => ?_)
    refine GT_st rfl rfl rfl rfl (V_assign rfl rfl) ?_
    refine GT_st rfl rfl rfl rfl (V_assign rfl rfl) ?_
    refine GT_nil ?_
    refine GE_seq ?_
    refine GE_plain (.st 0 (.st 1 (.ld 2 [] (.st 3 (.st 4 (.st 5 (.st 6 (.st 7 .nil)))))))) rfl ?_
    refine GT_st rfl rfl rfl rfl (V_loadN (vs := [_, _, _, _, _, _]) rfl rfl ag_28 sz_28 rfl (CellsAt.item rfl)) ?_
    refine GT_st rfl rfl rfl rfl (V_move rfl rfl) ?_
    refine GT_call0 rfl rfl rfl rfl rfl rfl rfl rfl rn_16 (fun w hw => C_lathe_newSide_err (hp.sh hw) he) (GR_nil) ?_
    refine GT_st rfl rfl rfl rfl (V_move rfl rfl) ?_
    refine GT_st rfl rfl rfl rfl (V_extract rfl rfl rfl) ?_
    refine GT_st rfl rfl rfl rfl (V_extract rfl rfl rfl) ?_
    refine GT_st rfl rfl rfl rfl (V_assign rfl rfl) ?_
    refine GT_st rfl rfl rfl rfl (V_assign rfl rfl) ?_
    refine GT_nil ?_
    refine GE_seq ?_
    refine GE_seq ?_
    refine GE_slots (L' := [(6, _), (7, _)]) ⟨rfl, rfl, trivial⟩ ?_
    refine GE_plain (.st 0 (.st 1 .nil)) rfl ?_
    refine GT_st rfl rfl rfl rfl (V_move rfl rfl) ?_
    refine GT_st rfl rfl rfl rfl (V_neq rfl rfl rfl) ?_
    refine GT_nil ?_
    first | refine GE_condNot rfl (fun h5 => ?_) (fun h5 => ?_) | refine GE_cond rfl (fun h5 => ?_) (fun h5 => ?_) | refine GE_condNotB rfl (fun h5 => ?_) (fun h5 => ?_) | refine GE_condB rfl (fun h5 => ?_) (fun h5 => ?_)
    · skip
      refine GE_seq ?_
      refine GE_plain (.st 0 (.st 1 (.st 2 .nil))) rfl ?_
      refine GT_st rfl rfl rfl rfl (V_move rfl rfl) ?_
      refine GT_st rfl rfl rfl rfl (V_assign rfl rfl) ?_
      refine GT_st rfl rfl rfl rfl (V_assign rfl rfl) ?_
      refine GT_nil ?_
      refine GE_ret Tryz.func7 ⟨_, _, rfl, rfl, rfl⟩ (fun w hw => ?_)
      exact ⟨(none, 0, []), by rw [e2]; exact Own.nil, by rw [e1, e2]; rfl, hw.nil⟩
    · exact absurd (by omega) he

end Go.Proofs.YtogljfjbilndnaaGreatDoor.Lathe
/- The reference's outermost cut and check of a cut, walked. -/
namespace Go.Proofs.YtogljfjbilndnaaGreatDoor.Lathe
open Go.Sx Go.Proofs

def longB (n : Nat) : Bool := (decide (40 < n) && decide (n ≤ 4096)) || decide (4100 < n)
end Go.Proofs.YtogljfjbilndnaaGreatDoor.Lathe
/- The lathe's check of a cut, walked. -/
namespace Go.Proofs.YtogljfjbilndnaaGreatDoor.Lathe
open Go.Sx Go.Proofs

/-- block g holds the cells cs -/
def BlkAt (w : World) (g : Nat) (cs : List Value) (t : TypeId) : Prop := w.heap[g]? = some (blk cs t)
theorem BlkAt.cell {w : World} {g o : Nat} {cs : List Value} {t : TypeId} {v : Value} (h : BlkAt w g cs t) (hv : cs[o]? = some v) : w.cell? ⟨g, o, none⟩ = some v := by
  unfold BlkAt at h
  simp [World.cell?, h, hv]
theorem BlkAt.sh {w0 w : World} {g : Nat} {cs : List Value} {t : TypeId} {H : Items} (h : BlkAt w0 g cs t) (m : SH w0 none' H w) : BlkAt w g cs t := by
  unfold BlkAt at h ⊢
  rw [m.old g (Array.getElem?_eq_some_iff.1 h).1 (fun e => e)]; exact h
theorem BlkAt.of {w0 w : World} {M : Nat → Prop} {H : Items} {g : Nat} {cs : List Value} {t : TypeId} (m : SH w0 M H w) [h : HFind g H (blk cs t)] : BlkAt w g cs t := (m.item _ h.mem).2

theorem at'_rim {r : List Int} {i : Int} (h : i = -1) : at' r i = 0 := if_pos h
theorem at'_in {r : List Int} {i : Int} (h : ¬ i = -1) : at' r i = r.getD i.toNat default := if_neg h
end Go.Proofs.YtogljfjbilndnaaGreatDoor.Lathe
/- The lathe's check of a cut: the first rule that is not kept, walked. -/
namespace Go.Proofs.YtogljfjbilndnaaGreatDoor.Lathe
open Go.Sx Go.Proofs

/-- a step that is one of a groove's -/
def StpIn (l : List Pt) (s : Stp) : Prop := In l.length s.samp ∧ 1 ≤ s.rule ∧ s.rule ≤ 5
theorem mem_stepList {l : List Pt} {s : Stp} (h : s ∈ stepList l) : StpIn l s := by
  simp only [stepList, stepTo, List.range_zero, List.map_nil, List.append_nil, List.mem_flatMap, List.mem_range, List.mem_map] at h
  obtain ⟨i, hi, q, hq, rfl⟩ := h
  exact ⟨⟨by dsimp only; omega, by dsimp only; omega⟩, by dsimp only; omega, by dsimp only; omega⟩

end Go.Proofs.YtogljfjbilndnaaGreatDoor.Lathe
/- Locked grooves, and the example, walked. -/
namespace Go.Proofs.YtogljfjbilndnaaGreatDoor.Lathe
open Go.Sx Go.Proofs

/-- the innermost edge of the last turn, as far as sample i -/
def lockTo (b : Blank) (l : List Pt) (r : List Int) : Nat → Int
  | 0 => b.rim
  | i + 1 => if l.length - b.per.toNat ≤ i then min (lockTo b l r i) (r.getD i default + (l.getD i default).inn - b.land) else lockTo b l r i
theorem lockTo_rim {b : Blank} {l : List Pt} {r : List Int} : ∀ {i : Nat}, i ≤ l.length - b.per.toNat → lockTo b l r i = b.rim
  | 0, _ => rfl
  | i + 1, h => by rw [lockTo, if_neg (by omega)]; exact lockTo_rim (by omega)
theorem rOk_at {r : List Int} (h : r.all rOk = true) {q : Nat} (hq : q < r.length) : -16777216 ≤ r.getD q default ∧ r.getD q default ≤ 16777216 := by
  have := List.all_eq_true.1 h _ (List.getElem_mem hq)
  simp only [rOk, betw_iff] at this
  simp only [List.getD, List.getElem?_eq_getElem hq, Option.getD_some]; omega
theorem lockTo_bd {b : Blank} {l : List Pt} {r : List Int} (hb : b.ok = true) (hp : PtB l) (hrl : r.length = l.length) (h : r.all rOk = true) : ∀ {i : Nat}, i ≤ l.length → -67108864 ≤ lockTo b l r i ∧ lockTo b l r i ≤ 67108864
  | 0, _ => by rw [Blank.ok_iff] at hb; unfold lockTo; omega
  | i + 1, hi => by
    have h1 := lockTo_bd hb hp hrl h (i := i) (by omega)
    have h2 := rOk_at h (q := i) (by omega)
    have h3 := hp i (by omega)
    rw [Blank.ok_iff] at hb
    rw [lockTo]; split <;> omega
def lockRes (b : Blank) (l : List Pt) (r : List Int) (h : Int) : Int × Int :=
  if cutE b l r = 0 then (if betw h 1 4096 then (if l.length = 0 then (0, 5) else if lockTo b l r l.length < 2 * h then (0, 15) else (lockTo b l r l.length - h, 0)) else (0, 3)) else (0, cutE b l r)
theorem lockRes_err {b : Blank} {l : List Pt} {r : List Int} {h : Int} (e : cutE b l r ≠ 0) : lockRes b l r h = (0, cutE b l r) := if_neg e

section
variable {b : Blank} {A A2 : Option Addr} {l : List Pt} {r : List Int} {c c2 bs cs i : Nat} {h : Int} {w : World}
end

def exB : Blank := ⟨2, 1000, 100, 10, 1, 100⟩
def exL : List Pt := [⟨-20, 20⟩, ⟨-20, 20⟩, ⟨-20, 20⟩, ⟨-20, 50⟩, ⟨-20, 20⟩]
end Go.Proofs.YtogljfjbilndnaaGreatDoor.Lathe
/- Works, valid, and LatheCuts, walked. -/
namespace Go.Proofs.YtogljfjbilndnaaGreatDoor.Lathe
open Go.Sx Go.Proofs

def exR : List Int := [980, 979, 930, 899, 880]
def exR2 : List Int := [980, 979, 930, 900, 880]
theorem ex_outR : outR exB exL = exR := by decide +kernel
theorem ex_outE : outE exB exL = 0 := by decide +kernel
theorem ex_cut : cutRes exB exL exR2 = (3, 5, 20) := by decide +kernel
theorem ex_lock : lockRes exB exL exR 20 = (830, 0) := by decide +kernel

end Go.Proofs.YtogljfjbilndnaaGreatDoor.Lathe
/- LatheCuts, walked. -/
namespace Go.Proofs.YtogljfjbilndnaaGreatDoor.Lathe
open Go.Sx Go.Proofs

theorem longB_false {n : Nat} (h : longB n = false) : n ≤ 4100 := by
  unfold longB at h; simp at h; omega

theorem outR_len {b : Blank} {l : List Pt} : (outR b l).length ≤ 1099511627776 := by
  unfold outR
  split
  · rename_i he
    obtain ⟨hb, hl, hpt⟩ := both_zero.1 he
    cases hg : greatest b l with
    | none => rw [outer_none hg]; simp
    | some r =>
      have h1 := (greatest_sm hb (ptB_of hpt) hl hg).1
      have h2 : outer b l = if coreAll b l r then some r else none := by unfold outer; rw [hg]; rfl
      rw [h2]
      split
      · show r.length ≤ _; omega
      · simp
  · simp
theorem outR_sm {b : Blank} {l : List Pt} : Sm (outR b l) := by
  unfold outR
  split
  · rename_i he
    obtain ⟨hb, hl, hpt⟩ := both_zero.1 he
    cases hg : greatest b l with
    | none => rw [outer_none hg]; intro q hq; simp at hq
    | some r =>
      have h1 := (greatest_sm hb (ptB_of hpt) hl hg).2
      have h2 : outer b l = if coreAll b l r then some r else none := by unfold outer; rw [hg]; rfl
      rw [h2]
      split
      · exact h1
      · intro q hq; simp at hq
  · intro q hq; simp at hq
end Go.Proofs.YtogljfjbilndnaaGreatDoor.Lathe
/- Proofs that a groove has no cut: what is accepted, that it is right, and that what the search finds is accepted. -/
namespace Go.Proofs.YtogljfjbilndnaaGreatDoor.Lathe
open Go.Sx

/-- one step more of a proof: how many there were, where it is, and the sum of the weights -/
def pst (b : Blank) (l : List Pt) (o : Option (Nat × Int × Int)) (s : Stp) : Option (Nat × Int × Int) :=
  match o with
  | none => none
  | some (k, pl, sum) => if (edgeOf b l s.rule s.samp).2 = true ∧ (k = 0 ∨ ((edgeOf b l s.rule s.samp).1.frm = pl ∧ (edgeOf b l s.rule s.samp).1.frm ≠ -1)) then some (k + 1, (edgeOf b l s.rule s.samp).1.to, sum + (edgeOf b l s.rule s.samp).1.wt) else none
def pfold (b : Blank) (l : List Pt) (st : List Stp) (f0 : Int) : Option (Nat × Int × Int) := st.foldl (pst b l) (some (0, f0, 0))
def frm0 (b : Blank) (l : List Pt) (st : List Stp) : Int := (edgeOf b l (st.getD 0 default).rule (st.getD 0 default).samp).1.frm
def provesB (b : Blank) (l : List Pt) (st : List Stp) : Bool := decide (st ≠ []) && match pfold b l st (frm0 b l st) with | some (_, pl, sum) => decide (pl = frm0 b l st) && decide (sum < 0) | none => false
def refE (b : Blank) (l : List Pt) (st : List Stp) : Int := if both b l = 0 then (if 16384 < st.length then 6 else if provesB b l st then 0 else 16) else both b l
theorem foldl_none {b : Blank} {l : List Pt} : ∀ st : List Stp, st.foldl (pst b l) none = none
  | [] => rfl
  | _ :: st => foldl_none st
theorem pfold_snoc {b : Blank} {l : List Pt} {st : List Stp} {f0 : Int} {k : Nat} (hk : k < st.length) : pfold b l (st.take (k + 1)) f0 = pst b l (pfold b l (st.take k) f0) (st.getD k default) := by
  unfold pfold
  rw [List.take_succ_eq_append_getElem hk, List.foldl_append]
  simp [List.getD, hk]
theorem pfold_bad {b : Blank} {l : List Pt} {st : List Stp} {f0 : Int} {k : Nat} (hk : k < st.length) (h : pst b l (pfold b l (st.take k) f0) (st.getD k default) = none) : pfold b l st f0 = none := by
  rw [← pfold_snoc hk] at h
  unfold pfold at h ⊢
  rw [← List.take_append_drop (k + 1) st, List.foldl_append, h]
  exact foldl_none _
theorem proves_none {b : Blank} {l : List Pt} {st : List Stp} (h : pfold b l st (frm0 b l st) = none) : provesB b l st = false := by unfold provesB; rw [h]; simp
theorem proves_some {b : Blank} {l : List Pt} {st : List Stp} {k : Nat} {pl sum : Int} (hne : st ≠ []) (h : pfold b l st (frm0 b l st) = some (k, pl, sum)) : provesB b l st = (decide (pl = frm0 b l st) && decide (sum < 0)) := by unfold provesB; rw [h]; simp [hne]
/-- bounds -/
theorem edgeOf_wt {b : Blank} {l : List Pt} {rule i : Int} (hb : b.ok = true) (hp : PtB l) (hf : (edgeOf b l rule i).2 = true) : -16777216 ≤ (edgeOf b l rule i).1.wt ∧ (edgeOf b l rule i).1.wt ≤ 16777216 := by
  by_cases hi : In l.length i
  · exact (edgeOf_place hb hp hi).2.2
  · exfalso
    unfold In at hi
    unfold edgeOf at hf
    rw [if_pos (by omega)] at hf
    cases hf
theorem pfold_bd {b : Blank} {l : List Pt} {f0 : Int} (hb : b.ok = true) (hp : PtB l) {st : List Stp} : ∀ k, k ≤ st.length → ∀ q pl sum, pfold b l (st.take k) f0 = some (q, pl, sum) → q = k ∧ -(16777216 * (k : Int)) ≤ sum ∧ sum ≤ 16777216 * (k : Int)
  | 0, _, q, pl, sum, h => by
    have h' : some ((0 : Nat), f0, (0 : Int)) = some (q, pl, sum) := h
    cases h'
    exact ⟨rfl, by simp, by simp⟩
  | k + 1, hk, q, pl, sum, h => by
    rw [pfold_snoc (by omega)] at h
    cases ho : pfold b l (st.take k) f0 with
    | none => rw [ho] at h; cases h
    | some o =>
      obtain ⟨q1, pl1, sum1⟩ := o
      rw [ho] at h
      obtain ⟨e1, e2, e3⟩ := pfold_bd hb hp k (by omega) q1 pl1 sum1 ho
      simp only [pst] at h
      split at h
      · rename_i hc
        have := edgeOf_wt hb hp hc.1
        cases h
        exact ⟨by omega, by push_cast; omega, by push_cast; omega⟩
      · cases h

/-! a proof is right -/
def ext0 (r : Int → Int) (i : Int) : Int := if i = -1 then 0 else r i
theorem keeps_edge {b : Blank} {l : List Pt} {r : Int → Int} (hb : b.ok = true) (hk : Keeps b l r) {rule i : Int} (hf : (edgeOf b l rule i).2 = true) : ext0 r (edgeOf b l rule i).1.to ≤ ext0 r (edgeOf b l rule i).1.frm + (edgeOf b l rule i).1.wt := by
  rw [Blank.ok_iff] at hb
  have hi : In l.length i := by
    by_cases hi : In l.length i
    · exact hi
    · exfalso
      unfold In at hi
      unfold edgeOf at hf
      rw [if_pos (by omega)] at hf
      cases hf
  have hi' := hi
  unfold In at hi'
  have hne : ∀ j, 0 ≤ j → ext0 r j = r j := fun j hj => if_neg (by omega)
  by_cases h1 : rule = 1
  · subst h1
    rw [edgeOf_one hi]; dsimp only
    rw [hne i hi'.1, show ext0 r (-1) = 0 from rfl]
    have := hk.rim i hi; unfold r0 at this; omega
  by_cases h2 : rule = 2
  · subst h2
    rw [edgeOf_two hi]; dsimp only
    rw [hne i hi'.1, show ext0 r (-1) = 0 from rfl]
    have := hk.core i.toNat (by omega)
    rw [Int.toNat_of_nonneg hi'.1] at this; omega
  by_cases h345 : rule = 3 ∨ rule = 4 ∨ rule = 5
  · have he : IsEdge b l (edgeOf b l rule i).1 := ⟨rule, i, h345, hi, hf, rfl⟩
    have := hk.edges _ he
    have hpos : 0 ≤ (edgeOf b l rule i).1.frm ∧ 0 ≤ (edgeOf b l rule i).1.to := by
      rcases h345 with rfl | rfl | rfl
      · rw [edgeOf_three hi] at hf ⊢; simp only [decide_eq_true_eq] at hf ⊢; omega
      · rw [edgeOf_four hi] at hf ⊢; simp only [decide_eq_true_eq] at hf ⊢; omega
      · rw [edgeOf_five hi] at hf ⊢
        split at hf
        · cases hf
        · rename_i hc; rw [if_neg hc]; dsimp only; omega
    rw [hne _ hpos.1, hne _ hpos.2]; exact this
  · exfalso
    unfold edgeOf at hf
    rw [if_neg (by omega), if_neg h1, if_neg h2, if_neg (by omega), if_neg (by omega), if_neg (by omega)] at hf
    cases hf
theorem pfold_sum {b : Blank} {l : List Pt} {r : Int → Int} (hb : b.ok = true) (hk : Keeps b l r) : ∀ (st : List Stp) (k : Nat) (p0 s0 : Int), (k = 0 → ∀ s, st.head? = some s → (edgeOf b l s.rule s.samp).1.frm = p0) → ∀ q pl sum, st.foldl (pst b l) (some (k, p0, s0)) = some (q, pl, sum) → ext0 r pl ≤ ext0 r p0 + (sum - s0)
  | [], k, p0, s0, _, q, pl, sum, h => by
    have h' : some (k, p0, s0) = some (q, pl, sum) := h
    cases h'; omega
  | s :: st, k, p0, s0, h0, q, pl, sum, h => by
    rw [List.foldl_cons] at h
    simp only [pst] at h
    split at h
    · rename_i hc
      have h1 := keeps_edge hb hk hc.1
      have h2 := pfold_sum hb hk st _ _ _ (fun h => by omega) _ _ _ h
      have h3 : (edgeOf b l s.rule s.samp).1.frm = p0 := by
        rcases hc.2 with h | h
        · exact h0 h s rfl
        · exact h.1
      rw [h3] at h1; omega
    · rw [foldl_none] at h; cases h
theorem proves_right {b : Blank} {l : List Pt} {st : List Stp} (he : both b l = 0) (h : provesB b l st = true) : outer b l = none := by
  obtain ⟨hb, hl, hpt⟩ := both_zero.1 he
  rcases outer_top hb (ptB_of hpt) with ⟨r, h1, h2⟩ | ⟨h1, _⟩
  · exfalso
    unfold provesB at h
    cases ho : pfold b l st (frm0 b l st) with
    | none => rw [ho] at h; simp at h
    | some o =>
      obtain ⟨q, pl, sum⟩ := o
      rw [ho] at h
      simp only [Bool.and_eq_true, decide_eq_true_eq] at h
      have := pfold_sum hb h2.keeps st 0 (frm0 b l st) 0 (fun _ s hs => by
        unfold frm0
        cases st with
        | nil => cases hs
        | cons x st => simp only [List.head?_cons, Option.some.injEq] at hs; subst hs; rfl) q pl sum ho
      rw [h.2.1] at this; omega
  · exact h1

/-! what the search finds is accepted -/
/-- the steps back from place m - 1 to v -/
def cedges (last : List Edge) (v : Int) : Nat → List Edge
  | 0 => []
  | m + 1 => (last.getD (back last m v).toNat default) :: cedges last v m
theorem cedges_len (last : List Edge) (v : Int) : ∀ m, (cedges last v m).length = m
  | 0 => rfl
  | m + 1 => by rw [cedges, List.length_cons, cedges_len last v m]
theorem cedges_rev (last : List Edge) (v : Int) : ∀ m, ((List.range m).map fun i => (last.getD (back last i v).toNat default).stp).reverse = (cedges last v m).map Edge.stp
  | 0 => rfl
  | m + 1 => by rw [List.range_succ, List.map_append, List.reverse_append, cedges_rev last v m]; rfl
/-- what an edge says of itself -/
def Self (b : Blank) (l : List Pt) (x : Edge) : Prop := edgeOf b l x.rule x.samp = (x, true)
theorem isEdge_self {b : Blank} {l : List Pt} {x : Edge} (h : IsEdge b l x) : Self b l x ∧ (x.rule = 3 ∨ x.rule = 4 ∨ x.rule = 5) := by
  obtain ⟨rule, i, hr, hi, hf, rfl⟩ := h
  have e : (edgeOf b l rule i).1.rule = rule ∧ (edgeOf b l rule i).1.samp = i := by
    unfold edgeOf; (repeat' split) <;> exact ⟨rfl, rfl⟩
  refine ⟨?_, by rw [e.1]; exact hr⟩
  unfold Self
  rw [e.1, e.2, ← hf]
theorem fold_back {b : Blank} {l : List Pt} {s : Srch} {v : Int} : ∀ (m k : Nat) (sum : Int), (∀ i, i < m → Self b l (Lst s (back s.last i v)) ∧ (Lst s (back s.last i v)).to = back s.last i v ∧ back s.last (i + 1) v ≠ -1) →
    ((cedges s.last v m).map Edge.stp).foldl (pst b l) (some (k + 1, back s.last m v, sum)) = some (k + 1 + m, v, sum + wsum s.last v m)
  | 0, k, sum, _ => by simp [cedges, back, wsum]
  | m + 1, k, sum, h => by
    obtain ⟨h1, h2, h3⟩ := h m (by omega)
    have e1 : cedges s.last v (m + 1) = Lst s (back s.last m v) :: cedges s.last v m := rfl
    have e2 : back s.last (m + 1) v = (Lst s (back s.last m v)).frm := rfl
    have e3 : edgeOf b l (Lst s (back s.last m v)).stp.rule (Lst s (back s.last m v)).stp.samp = (Lst s (back s.last m v), true) := h1
    rw [e1, List.map_cons, List.foldl_cons]
    have e4 : pst b l (some (k + 1, back s.last (m + 1) v, sum)) (Lst s (back s.last m v)).stp = some (k + 1 + 1, back s.last m v, sum + (Lst s (back s.last m v)).wt) := by
      simp only [pst, e3]
      rw [if_pos ⟨trivial, .inr ⟨e2.symm, by rw [← e2]; exact h3⟩⟩, h2]
    rw [e4, fold_back m (k + 1) _ (fun i hi => h i (by omega))]
    have e5 : wsum s.last v (m + 1) = wsum s.last v m + (Lst s (back s.last m v)).wt := rfl
    rw [e5]; congr 2
    · omega
    · congr 1; omega
/-- the first step, wherever it begins -/
theorem fold_first {b : Blank} {l : List Pt} {x : Edge} (h : Self b l x) (f0 : Int) : pst b l (some (0, f0, 0)) x.stp = some (1, x.to, x.wt) := by
  have e3 : edgeOf b l x.stp.rule x.stp.samp = (x, true) := h
  simp [pst, e3]

/-- a circle, from place m - 1 of it on, is accepted -/
theorem circle_proves {b : Blank} {l : List Pt} {s : Srch} {v : Int} {m : Nat} (hm : 0 < m) (hback : back s.last m v = v) (h : ∀ i, Self b l (Lst s (back s.last i v)) ∧ (Lst s (back s.last i v)).to = back s.last i v ∧ back s.last (i + 1) v ≠ -1) (hs : wsum s.last v m < 0) : provesB b l ((cedges s.last v m).map Edge.stp) = true := by
  obtain ⟨n, rfl⟩ : ∃ n, m = n + 1 := ⟨m - 1, by omega⟩
  have e1 : cedges s.last v (n + 1) = Lst s (back s.last n v) :: cedges s.last v n := rfl
  obtain ⟨h1, h2, h3⟩ := h n
  have e3 : edgeOf b l (Lst s (back s.last n v)).stp.rule (Lst s (back s.last n v)).stp.samp = (Lst s (back s.last n v), true) := h1
  have ef : frm0 b l ((cedges s.last v (n + 1)).map Edge.stp) = v := by
    unfold frm0
    rw [e1, List.map_cons]
    show (edgeOf b l (Lst s (back s.last n v)).stp.rule (Lst s (back s.last n v)).stp.samp).1.frm = v
    rw [e3]
    exact hback
  have hfold : pfold b l ((cedges s.last v (n + 1)).map Edge.stp) v = some (n + 1, v, wsum s.last v (n + 1)) := by
    unfold pfold
    rw [e1, List.map_cons, List.foldl_cons, fold_first h1, h2, fold_back n 0 _ (fun i _ => h i)]
    have e5 : wsum s.last v (n + 1) = wsum s.last v n + (Lst s (back s.last n v)).wt := rfl
    rw [e5]; congr 2
    · omega
    · congr 1; omega
  rw [proves_some (by rw [e1]; simp) (by rw [ef]; exact hfold), ef]
  simp [hs]
/-- a way from the rim to the core is accepted -/
theorem way_proves {b : Blank} {l : List Pt} {s : Srch} {x : Edge} {m : Nat} (hx : Self b l x) (hto : x.to = -1) (hfr : x.frm ≠ -1) (hm : 0 < m) (hrim : back s.last m x.frm = -1) (h : ∀ i, i < m → Self b l (Lst s (back s.last i x.frm)) ∧ (Lst s (back s.last i x.frm)).to = back s.last i x.frm ∧ back s.last i x.frm ≠ -1) (hs : wsum s.last x.frm m + x.wt < 0) :
    provesB b l ((cedges s.last x.frm m).map Edge.stp ++ [x.stp]) = true := by
  obtain ⟨n, rfl⟩ : ∃ n, m = n + 1 := ⟨m - 1, by omega⟩
  have e1 : cedges s.last x.frm (n + 1) = Lst s (back s.last n x.frm) :: cedges s.last x.frm n := rfl
  obtain ⟨h1, h2, h3⟩ := h n (by omega)
  have e3 : edgeOf b l (Lst s (back s.last n x.frm)).stp.rule (Lst s (back s.last n x.frm)).stp.samp = (Lst s (back s.last n x.frm), true) := h1
  have ef : frm0 b l ((cedges s.last x.frm (n + 1)).map Edge.stp ++ [x.stp]) = -1 := by
    unfold frm0
    rw [e1, List.map_cons]
    show (edgeOf b l (Lst s (back s.last n x.frm)).stp.rule (Lst s (back s.last n x.frm)).stp.samp).1.frm = -1
    rw [e3]
    exact hrim
  have e4 : edgeOf b l x.stp.rule x.stp.samp = (x, true) := hx
  have hfold : pfold b l ((cedges s.last x.frm (n + 1)).map Edge.stp ++ [x.stp]) (-1) = some (n + 2, -1, wsum s.last x.frm (n + 1) + x.wt) := by
    have hA : ((cedges s.last x.frm (n + 1)).map Edge.stp).foldl (pst b l) (some (0, -1, 0)) = some (n + 1, x.frm, wsum s.last x.frm (n + 1)) := by
      rw [e1, List.map_cons, List.foldl_cons, fold_first h1, h2, fold_back n 0 _ (fun i hi => by
        obtain ⟨q1, q2, _⟩ := h i (by omega)
        exact ⟨q1, q2, (h (i + 1) (by omega)).2.2⟩)]
      have e5 : wsum s.last x.frm (n + 1) = wsum s.last x.frm n + (Lst s (back s.last n x.frm)).wt := rfl
      rw [e5]; congr 2
      · omega
      · congr 1; omega
    unfold pfold
    rw [List.foldl_append, hA, List.foldl_cons, List.foldl_nil]
    simp only [pst, e4]
    rw [if_pos ⟨trivial, .inr ⟨trivial, hfr⟩⟩, hto]
  rw [proves_some (by simp) (by rw [ef]; exact hfold), ef]
  simp [hs]
end Go.Proofs.YtogljfjbilndnaaGreatDoor.Lathe
