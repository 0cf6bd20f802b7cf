/- LatheMoved, walked. -/
import Derived.Test.YtacmnmcaeflflaaSxA
import Derived.Test.YtacmnmcaeflflaaLaD
import Derived.Test.YtacmnmcaeflflaaLaL
namespace Go.Proofs.Ytacmnmcaeflflaa
open Go.Sx Go.Proofs

/-- a blank with a greater rim and core -/
def moved (b : Blank) (s : Int) : Blank := ⟨b.per, b.rim + s, b.core + s, b.land, b.slow, b.fast⟩
theorem moved_ok {b : Blank} {s : Int} (hb : b.ok = true) (h : 0 ≤ s ∧ b.rim + s ≤ 4194304) : (moved b s).ok = true := by
  rw [Blank.ok_iff] at hb ⊢; unfold moved; dsimp only; omega
theorem moved_edge {b : Blank} {l : List Pt} {s rule i : Int} (hr : rule = 3 ∨ rule = 4 ∨ rule = 5) (hi : In l.length i) : edgeOf (moved b s) l rule i = edgeOf b l rule i := by
  rcases hr with rfl | rfl | rfl
  · rw [edgeOf_three hi, edgeOf_three hi]; rfl
  · rw [edgeOf_four hi, edgeOf_four hi]; rfl
  · rw [edgeOf_five hi, edgeOf_five hi]; rfl
theorem moved_keeps {b : Blank} {l : List Pt} {s : Int} {r : Int → Int} : Keeps b l r ↔ Keeps (moved b s) l fun i => r i + s := by
  constructor
  · rintro ⟨h1, h2, h3⟩
    refine ⟨?_, fun i hi => ?_, fun i hi => ?_⟩
    · rintro x ⟨rule, i, hr, hi, hf, rfl⟩
      rw [moved_edge hr hi] at hf ⊢
      have := h1 _ ⟨rule, i, hr, hi, hf, rfl⟩; dsimp only; omega
    · have := h2 i hi; unfold r0 moved at *; dsimp only; omega
    · have := h3 i hi; unfold moved; dsimp only; omega
  · rintro ⟨h1, h2, h3⟩
    refine ⟨?_, fun i hi => ?_, fun i hi => ?_⟩
    · rintro x ⟨rule, i, hr, hi, hf, rfl⟩
      have := h1 _ ⟨rule, i, hr, hi, by rw [moved_edge hr hi]; exact hf, rfl⟩
      rw [moved_edge hr hi] at this; dsimp only at this; omega
    · have := h2 i hi; unfold r0 moved at *; dsimp only at this; omega
    · have := h3 i hi; unfold moved at this; dsimp only at this; omega
theorem val_map {r : List Int} {s i : Int} (hi : In r.length i) : val (r.map (· + s)) i = val r i + s := by
  unfold In at hi; unfold val
  have h : i.toNat < r.length := by omega
  simp [List.getD, h]
theorem keeps_congr {b : Blank} {l : List Pt} {r r' : Int → Int} (h : ∀ i, In l.length i → r i = r' i) (hb : b.ok = true) (hp : PtB l) (hk : Keeps b l r) : Keeps b l r' := by
  refine ⟨fun x hx => ?_, fun i hi => by rw [← h i hi]; exact hk.rim i hi, fun i hi => by rw [← h i ⟨by omega, by omega⟩]; exact hk.core i hi⟩
  have hf := isEdge_facts hb hp hx
  rw [← h _ hf.1, ← h _ hf.2.1]; exact hk.edges x hx
theorem moved_out {b : Blank} {l : List Pt} {s : Int} (he : both b l = 0) (h : 0 ≤ s ∧ b.rim + s ≤ 4194304) : both (moved b s) l = 0 ∧ outE (moved b s) l = outE b l ∧ outR (moved b s) l = (outR b l).map (· + s) := by
  obtain ⟨hb, hl, hpt⟩ := both_zero.1 he
  have hp := ptB_of hpt
  have hb' := moved_ok hb h
  have he' : both (moved b s) l = 0 := both_zero.2 ⟨hb', hl, hpt⟩
  refine ⟨he', ?_⟩
  rcases outer_top hb hp with ⟨r, h1, h2⟩ | ⟨h1, h2⟩
  · have ht : Top (moved b s) l (r.map (· + s)) := by
      have hv : ∀ i, In l.length i → val r i + s = val (r.map (· + s)) i := fun i hi => (val_map (by rw [h2.len]; exact hi)).symm
      refine ⟨by simp [h2.len], keeps_congr hv hb' hp (moved_keeps.1 h2.keeps), fun r' hr' i hi => ?_⟩
      have h4 : Keeps b l fun i => r' i - s := (moved_keeps (s := s)).2 (by simpa using hr')
      have := h2.most _ h4 i hi
      rw [← hv i hi]; omega
    obtain ⟨e1, e2⟩ := outE_of he h1
    obtain ⟨e3, e4⟩ := outE_of he' (outer_of_top hb' hp ht)
    rw [e1, e2, e3, e4]; exact ⟨rfl, rfl⟩
  · obtain ⟨e1, e2⟩ := outE_none he h1
    rcases outer_top hb' hp with ⟨r, h3, h4⟩ | ⟨h3, _⟩
    · have h5 : Keeps b l fun i => val r i - s := (moved_keeps (s := s)).2 (by simpa using h4.keeps)
      exact absurd ⟨_, h5⟩ h2
    · obtain ⟨e3, e4⟩ := outE_none he' h3
      rw [e1, e2, e3, e4]; exact ⟨rfl, rfl⟩
/-- a blank with milder rules -/
def milder (b : Blank) (z0 z1 z2 z3 z4 : Int) : Blank := ⟨b.per, min 4194304 (b.rim + z0), max 0 (b.core - z1), max 0 (b.land - z2), max 0 (b.slow - z3), min 65536 (b.fast + z4)⟩
theorem milder_both {b : Blank} {l : List Pt} {z0 z1 z2 z3 z4 : Int} (he : both b l = 0) (h0 : 0 ≤ z0) (h1 : 0 ≤ z1) (h2 : 0 ≤ z2) (h3 : 0 ≤ z3) (h4 : 0 ≤ z4) : both (milder b z0 z1 z2 z3 z4) l = 0 ∧ Milder b l (milder b z0 z1 z2 z3 z4) l := by
  obtain ⟨hb, hl, hpt⟩ := both_zero.1 he
  have hbo := Blank.ok_iff.1 hb
  refine ⟨both_zero.2 ⟨?_, hl, hpt⟩, ⟨rfl, rfl, ?_, ?_, ?_, ?_, ?_, fun i hi => ⟨Int.le_refl _, Int.le_refl _⟩⟩⟩
  · rw [Blank.ok_iff]; unfold milder; dsimp only; omega
  all_goals unfold milder; dsimp only; omega

set_option maxRecDepth 10000 in
set_option maxHeartbeats 1000000 in
theorem L_LatheMoved {b : Blank} {A : Option Addr} {l : List Pt} {m z0 z1 z2 z3 z4 : Int} {c : Nat} {w : World} (hp : RdL w 2 ePt A l) (_ : l.length ≤ maxLen ∧ ∀ x ∈ l, PtWf x) (hmw : (Lit.int .u16 m).wf = true)
    (hz : (0 ≤ z0 ∧ z0 ≤ 65535) ∧ (0 ≤ z1 ∧ z1 ≤ 65535) ∧ (0 ≤ z2 ∧ z2 ≤ 65535) ∧ (0 ≤ z3 ∧ z3 ≤ 65535) ∧ (0 ≤ z4 ∧ z4 ≤ 65535)) :
    Con0 Try.prog 6 [b.val, .slice A l.length c, .int .u16 m, .agg #[.int .u16 z0, .int .u16 z1, .int .u16 z2, .int .u16 z3, .int .u16 z4]] w (.bool true) := by
  have hm' := u16_of hmw
  obtain ⟨hz0, hz1, hz2, hz3, hz4⟩ := hz
  refine Ret_of (vs := [_, _, _, _]) hm none' Try.func6 rfl Try.ntmps6 rfl ?_
  dsimp only [slotsOf]
  refine GE_seq ?_
  refine GE_plain (.ld 0 [] (.ld 1 [] (.st 2 .nil))) rfl ?_
  refine GT_box (z := [_, _, _, _, _, _]) rfl rfl rfl rfl rfl rfl rfl (fun _ => GR_nil) (fun b4 => ?_)
  refine GT_box (z := [_, _, _, _, _]) rfl rfl rfl rfl rfl rfl rfl (fun _ => GR_nil) (fun b7 => ?_)
  refine GT_st rfl rfl rfl rfl (V_assign rfl rfl) ?_
  refine GT_nil ?_
  refine GE_seq ?_
  refine GE_seq ?_
  refine GE_plain (.st 0 (.st 1 (.ld 2 [] (.st 3 .nil)))) rfl ?_
  refine GT_st rfl rfl rfl rfl (V_loadN (vs := [_, _, _, _, _, _]) rfl rfl ag_23 sz_23 rfl (CellsAt.item rfl)) ?_
  refine GT_st rfl rfl rfl rfl (V_move rfl rfl) ?_
  refine GT_call0 rfl rfl rfl rfl rfl rfl rfl rfl rn_24 (fun w hw => C_law05_valid (hp.sh hw)) (GR_nil) ?_
  first | refine GT_st rfl rfl rfl rfl (V_not rfl rfl) ?_ | refine GT_st rfl rfl rfl rfl (V_notB rfl rfl) ?_
  refine GT_nil ?_
  first | refine GE_condNot rfl (fun h1 => ?_) (fun h1 => ?_) | refine GE_cond rfl (fun h1 => ?_) (fun h1 => ?_) | refine GE_condNotB rfl (fun h1 => ?_) (fun h1 => ?_) | refine GE_condB rfl (fun h1 => ?_) (fun h1 => ?_)
  · skip
    refine GE_seq ?_
    refine GE_slots (L' := []) trivial ?_
    refine GE_plain (.ld 0 [] (.st 1 .nil)) rfl ?_
    refine GT_call0 rfl rfl rfl rfl rfl rfl rfl rfl rn_16 (fun w hw => C_law05_Works) (GR_nil) ?_
    refine GT_st rfl rfl rfl rfl (V_assign rfl rfl) ?_
    refine GT_nil ?_
    refine GE_ret Try.func6 rfl (fun w hw => ⟨?_, hw.nil⟩)
    rfl
  · obtain ⟨hl, he⟩ := of_valid h1; obtain ⟨hb, _, hpt⟩ := both_zero.1 he; have hbo := Blank.ok_iff.1 hb
    refine GE_skip ?_
    refine GE_seq ?_
    refine GE_slots (L' := [(1, _), (2, _), (4, _), (7, _)]) ⟨rfl, rfl, rfl, rfl, trivial⟩ ?_
    refine GE_plain (.st 0 (.st 1 (.ld 2 [] (.st 3 (.st 4 (.st 5 (.st 6 (.st 7 .nil)))))))) rfl ?_
    refine GT_st rfl rfl rfl rfl (V_loadN (vs := [_, _, _, _, _, _]) rfl rfl ag_23 sz_23 rfl (CellsAt.item rfl)) ?_
    refine GT_st rfl rfl rfl rfl (V_move rfl rfl) ?_
    refine GT_call rfl rfl rfl rfl rfl rfl rfl rfl rn_17 (fun w hw => C_lathe_Outermost (hp.sh hw)) (fun _ _ => GR_nil) (fun y hy => ?_)
    refine GT_st rfl rfl rfl rfl (V_move rfl rfl) ?_
    refine GT_st rfl rfl rfl rfl (V_extract rfl rfl rfl) ?_
    refine GT_st rfl rfl rfl rfl (V_extract rfl rfl rfl) ?_
    refine GT_st rfl rfl rfl rfl (V_assign rfl rfl) ?_
    refine GT_st rfl rfl rfl rfl (V_assign rfl rfl) ?_
    refine GT_nil ?_
    refine GE_seq ?_
    refine GE_slots (L' := [(1, _), (2, _), (4, _), (7, _), (9, _), (10, _)]) ⟨rfl, rfl, rfl, rfl, rfl, rfl, trivial⟩ ?_
    refine GE_plain (.st 0 (.ld 1 [] (.ld 2 [] .nil))) rfl ?_
    refine GT_st rfl rfl rfl rfl (V_loadN (vs := [_, _, _, _, _, _]) rfl rfl ag_23 sz_23 rfl (CellsAt.item rfl)) ?_
    refine GT_alloc rfl rfl rfl rfl rfl zc_23 (fun _ => GR_nil) (fun b11 => ?_)
    refine GT_store (vs := [_, _, _, _, _, _]) (l' := [_, _, _, _, _, _]) rfl rfl rfl rfl rfl rfl rfl sz_23 rfl rfl (Nat.le_of_ble_eq_true rfl) rfl (GR_nil) ?_
    refine GT_nil ?_
    refine GE_seq ?_
    refine GE_plain (.st 0 (.st 1 (.st 2 (.st 3 (.st 4 (.st 5 (.st 6 .nil))))))) rfl ?_
    refine GT_st rfl rfl rfl rfl (V_move rfl rfl) ?_
    refine GT_st rfl rfl rfl rfl (V_convII rfl rfl (by rw [Try.underlying42]; rfl) Try.underlying2 (wrap_i64 (by omega))) ?_
    first | refine GT_st rfl rfl rfl rfl (V_field rfl rfl fo_23_1) ?_ | refine GT_st rfl rfl rfl rfl (V_fieldA rfl rfl fo_23_1) ?_
    refine GT_st rfl rfl rfl rfl (V_load rfl rfl ag_2 (CellAt.item rfl)) ?_
    refine GT_st rfl rfl rfl rfl (V_sub rfl rfl rfl (wrap_i64 (by omega))) ?_
    refine GT_st rfl rfl rfl rfl (V_min rfl rfl rfl) ?_
    refine GT_st rfl rfl rfl rfl (V_assign rfl rfl) ?_
    refine GT_nil ?_
    refine GE_seq ?_
    refine GE_slots (L' := [(1, _), (4, _), (7, _), (9, _), (10, _), (11, _), (12, _)]) ⟨rfl, rfl, rfl, rfl, rfl, rfl, rfl, trivial⟩ ?_
    refine GE_plain (.st 0 (.st 1 (.st 2 (.st 3 (.st 4 (.ld 5 [] .nil)))))) rfl ?_
    first | refine GT_st rfl rfl rfl rfl (V_field rfl rfl fo_23_1) ?_ | refine GT_st rfl rfl rfl rfl (V_fieldA rfl rfl fo_23_1) ?_
    refine GT_st rfl rfl rfl rfl (V_load rfl rfl ag_2 (CellAt.item rfl)) ?_
    refine GT_st rfl rfl rfl rfl (V_move rfl rfl) ?_
    refine GT_st rfl rfl rfl rfl (V_add rfl rfl rfl (wrap_i64 (by omega))) ?_
    first | refine GT_st rfl rfl rfl rfl (V_field rfl rfl fo_23_1) ?_ | refine GT_st rfl rfl rfl rfl (V_fieldA rfl rfl fo_23_1) ?_
    refine GT_store (vs := [_]) (l' := [_, _, _, _, _, _]) rfl rfl rfl rfl rfl rfl rfl sz_2 rfl rfl (Nat.le_of_ble_eq_true rfl) rfl (GR_nil) ?_
    refine GT_nil ?_
    refine GE_seq ?_
    refine GE_slots (L' := [(1, _), (4, _), (7, _), (9, _), (10, _), (11, _), (12, _)]) ⟨rfl, rfl, rfl, rfl, rfl, rfl, rfl, trivial⟩ ?_
    refine GE_plain (.st 0 (.st 1 (.st 2 (.st 3 (.st 4 (.ld 5 [] .nil)))))) rfl ?_
    first | refine GT_st rfl rfl rfl rfl (V_field rfl rfl fo_23_2) ?_ | refine GT_st rfl rfl rfl rfl (V_fieldA rfl rfl fo_23_2) ?_
    refine GT_st rfl rfl rfl rfl (V_load rfl rfl ag_2 (CellAt.item rfl)) ?_
    refine GT_st rfl rfl rfl rfl (V_move rfl rfl) ?_
    refine GT_st rfl rfl rfl rfl (V_add rfl rfl rfl (wrap_i64 (by omega))) ?_
    first | refine GT_st rfl rfl rfl rfl (V_field rfl rfl fo_23_2) ?_ | refine GT_st rfl rfl rfl rfl (V_fieldA rfl rfl fo_23_2) ?_
    refine GT_store (vs := [_]) (l' := [_, _, _, _, _, _]) rfl rfl rfl rfl rfl rfl rfl sz_2 rfl rfl (Nat.le_of_ble_eq_true rfl) rfl (GR_nil) ?_
    refine GT_nil ?_
    refine GE_seq ?_
    refine GE_slots (L' := [(1, _), (4, _), (7, _), (9, _), (10, _), (11, _), (12, _)]) ⟨rfl, rfl, rfl, rfl, rfl, rfl, rfl, trivial⟩ ?_
    obtain ⟨he1, e1, e2⟩ := moved_out (s := min m (4194304 - b.rim)) he (by omega)
    have e3 : (outR (moved b (min m (4194304 - b.rim))) l).length = (outR b l).length := by rw [e2]; simp
    have e4 : ∀ i, i < (outR b l).length → (outR (moved b (min m (4194304 - b.rim))) l).getD i default = (outR b l).getD i default + min m (4194304 - b.rim) := fun i hi => by rw [e2]; simp [List.getD, hi]
    refine GE_plain (.st 0 (.st 1 (.ld 2 [] (.st 3 (.st 4 (.st 5 (.st 6 (.st 7 .nil)))))))) rfl ?_
    refine GT_st rfl rfl rfl rfl (V_loadN (vs := [_, _, _, _, _, _]) rfl rfl ag_23 sz_23 rfl (CellsAt.item rfl)) ?_
    refine GT_st rfl rfl rfl rfl (V_move rfl rfl) ?_
    refine GT_call rfl rfl rfl rfl rfl rfl rfl rfl rn_17 (fun w hw => C_lathe_Outermost (b := moved b (min m (4194304 - b.rim))) (hp.sh hw)) (fun _ _ => GR_nil) (fun z hz => ?_)
    refine GT_st rfl rfl rfl rfl (V_move rfl rfl) ?_
    refine GT_st rfl rfl rfl rfl (V_extract rfl rfl rfl) ?_
    refine GT_st rfl rfl rfl rfl (V_extract rfl rfl rfl) ?_
    refine GT_st rfl rfl rfl rfl (V_assign rfl rfl) ?_
    refine GT_st rfl rfl rfl rfl (V_assign rfl rfl) ?_
    refine GT_nil ?_
    refine GE_seq ?_
    refine GE_seq ?_
    refine GE_slots (L' := [(1, _), (4, _), (7, _), (9, _), (10, _), (12, _), (13, _), (14, _)]) ⟨rfl, rfl, rfl, rfl, rfl, rfl, rfl, rfl, trivial⟩ ?_
    refine GE_plain (.st 0 (.st 1 (.st 2 (.st 3 (.st 4 (.st 5 (.st 6 (.st 7 (.st 8 (.st 9 .nil)))))))))) rfl ?_
    refine GT_st rfl rfl rfl rfl (V_move rfl rfl) ?_
    refine GT_st rfl rfl rfl rfl (V_move rfl rfl) ?_
    refine GT_st rfl rfl rfl rfl (V_isF (V_neq rfl rfl rfl) (fun h => h e1.symm)) ?_
    refine GT_st rfl rfl rfl rfl (V_move rfl rfl) ?_
    refine GT_st_g rfl rfl rfl rfl rfl rfl rfl (V_move rfl rfl) ?_
    refine GT_st_g rfl rfl rfl rfl rfl rfl rfl (V_len rfl Try.underlying25 rfl) ?_
    refine GT_st_g rfl rfl rfl rfl rfl rfl rfl (V_move rfl rfl) ?_
    refine GT_st_g rfl rfl rfl rfl rfl rfl rfl (V_len rfl Try.underlying25 rfl) ?_
    refine GT_st_g rfl rfl rfl rfl rfl rfl rfl (V_isF (V_neq rfl rfl rfl) (fun h => h (by rw [e3]))) ?_
    refine GT_st rfl rfl rfl rfl (V_pick_f rfl rfl rfl) ?_
    refine GT_nil ?_
    refine GE_cond_f rfl ?_
    refine GE_skip ?_
    refine GE_seq ?_
    refine GE_seq ?_
    refine GE_slots (L' := [(1, _), (4, _), (7, _), (9, _), (10, _), (12, _), (13, _)]) ⟨rfl, rfl, rfl, rfl, rfl, rfl, rfl, trivial⟩ ?_
    refine GE_plain (.st 0 .nil) rfl ?_
    refine GT_st rfl rfl rfl rfl (V_assign rfl rfl) ?_
    refine GT_nil ?_
    refine GE_block ?_
    refine GE_to (GE_loop (ι := Nat) (fun k => (outR b l).length - k) (fun k => [(1, .slice A l.length c), (4, ptr b4 0), (7, ptr b7 0), (9, .slice y.1 (outR b l).length y.2.1), (10, I (outE b l)), (12, I (min m (4194304 - b.rim))), (13, .slice z.1 (outR (moved b (min m (4194304 - b.rim))) l).length z.2.1), (15, I k)]) (fun k => y.2.2 ++ (z.2.2 ++ [(b4, blk b.cells 23), (b7, blk [.int .u16 z0, .int .u16 z1, .int .u16 z2, .int .u16 z3, .int .u16 z4] 43)])) (fun k => k ≤ (outR b l).length) ?_ 0 ?_) ⟨rfl, rfl, rfl, rfl, rfl, rfl, rfl, rfl, trivial⟩ (HS.chunk (HS.chunk (HS.cons rfl (HS.cons rfl HS.nil))))
    · intro k hk ih; have hol := outR_len (b := b) (l := l)
      refine GE_seq ?_
      refine GE_seq ?_
      refine GE_plain (.st 0 (.st 1 (.st 2 (.st 3 .nil)))) rfl ?_
      refine GT_st rfl rfl rfl rfl (V_move rfl rfl) ?_
      refine GT_st rfl rfl rfl rfl (V_move rfl rfl) ?_
      refine GT_st rfl rfl rfl rfl (V_len rfl Try.underlying25 rfl) ?_
      refine GT_st rfl rfl rfl rfl (V_lss rfl rfl rfl) ?_
      refine GT_nil ?_
      first | refine GE_condNot rfl (fun h5 => ?_) (fun h5 => ?_) | refine GE_cond rfl (fun h5 => ?_) (fun h5 => ?_) | refine GE_condNotB rfl (fun h5 => ?_) (fun h5 => ?_) | refine GE_condB rfl (fun h5 => ?_) (fun h5 => ?_)
      · have hlt : k < (outR b l).length := (by omega); have hab := e4 k hlt; have hsm := outR_sm (b := b) (l := l) k hlt
        refine GE_skip ?_
        refine GE_seq ?_
        refine GE_block ?_
        refine GE_seq ?_
        refine GE_slots (L' := [(1, _), (4, _), (7, _), (9, _), (10, _), (12, _), (13, _), (15, _)]) ⟨rfl, rfl, rfl, rfl, rfl, rfl, rfl, rfl, trivial⟩ ?_
        refine GE_drawn (.st 0 (.st 1 (.st 2 (.st 3 (.st 4 (.st 5 (.st 6 (.st 7 (.st 8 (.st 9 (.st 10 .nil))))))))))) [] (by decide +kernel) ?_
        refine GT_st rfl rfl rfl rfl (V_move rfl rfl) ?_
        refine GT_st rfl rfl rfl rfl (V_move rfl rfl) ?_
        refine GT_st rfl rfl rfl rfl (V_index rfl rfl rfl Try.underlying25 sz_2 rfl (by omega) (hz.isSome (k := k) (by omega))) ?_
        refine GT_st rfl rfl rfl rfl (V_load rfl rfl ag_2 (CellAt.own0 hz eI_len (by omega) rfl)) ?_
        refine GT_st rfl rfl rfl rfl (V_move rfl rfl) ?_
        refine GT_st rfl rfl rfl rfl (V_move rfl rfl) ?_
        refine GT_st rfl rfl rfl rfl (V_index rfl rfl rfl Try.underlying25 sz_2 rfl hlt (hy.isSome (k := k) (by omega))) ?_
        refine GT_st rfl rfl rfl rfl (V_load rfl rfl ag_2 (CellAt.own0 hy eI_len (by omega) rfl)) ?_
        refine GT_st rfl rfl rfl rfl (V_move rfl rfl) ?_
        refine GT_st rfl rfl rfl rfl (V_add rfl rfl rfl (wrap_i64 (by omega))) ?_
        refine GT_st rfl rfl rfl rfl (V_isF (V_neq rfl rfl rfl) (fun h => h hab)) ?_
        refine GT_nil ?_
        refine GE_cond_f rfl ?_
        refine GE_skip ?_
        refine GE_inBlock ?_
        refine GE_slots (L' := [(1, _), (4, _), (7, _), (9, _), (10, _), (12, _), (13, _), (15, _)]) ⟨rfl, rfl, rfl, rfl, rfl, rfl, rfl, rfl, trivial⟩ ?_
        refine GE_plain (.st 0 (.st 1 (.ld 2 [] .nil))) rfl ?_
        refine GT_st rfl rfl rfl rfl (V_move rfl rfl) ?_
        refine GT_st rfl rfl rfl rfl (V_add rfl rfl rfl (wrap_i64 (by omega))) ?_
        refine GT_ldv rfl rfl rfl rfl rfl (V_assign rfl rfl) (GR_nil) ?_
        refine GT_nil ?_
        exact GE_to (ih (k + 1) (by omega) (by omega)) ⟨rfl, rfl, rfl, rfl, rfl, rfl, rfl, rfl, trivial⟩ (HS.chunk (HS.chunk (HS.cons rfl (HS.cons rfl HS.nil))))
      · skip
        refine GE_exit rfl ?_
        refine GE_seq ?_
        refine GE_slots (L' := [(1, _), (4, _), (7, _), (9, _), (10, _)]) ⟨rfl, rfl, rfl, rfl, rfl, trivial⟩ ?_
        refine GE_plain (.st 0 (.ld 1 [] (.ld 2 [] .nil))) rfl ?_
        refine GT_st rfl rfl rfl rfl (V_loadN (vs := [_, _, _, _, _, _]) rfl rfl ag_23 sz_23 rfl (CellsAt.item rfl)) ?_
        refine GT_alloc rfl rfl rfl rfl rfl zc_23 (fun _ => GR_nil) (fun b16 => ?_)
        refine GT_store (vs := [_, _, _, _, _, _]) (l' := [_, _, _, _, _, _]) rfl rfl rfl rfl rfl rfl rfl sz_23 rfl rfl (Nat.le_of_ble_eq_true rfl) rfl (GR_nil) ?_
        refine GT_nil ?_
        refine GE_seq ?_
        refine GE_plain (.st 0 (.st 1 (.st 2 (.st 3 (.st 4 (.st 5 (.st 6 (.st 7 (.ld 8 [] .nil))))))))) rfl ?_
        first | refine GT_st rfl rfl rfl rfl (V_field rfl rfl fo_23_1) ?_ | refine GT_st rfl rfl rfl rfl (V_fieldA rfl rfl fo_23_1) ?_
        refine GT_st rfl rfl rfl rfl (V_load rfl rfl ag_2 (CellAt.item rfl)) ?_
        first | refine GT_st rfl rfl rfl rfl (V_indexArr (kk := 0) rfl rfl rfl Try.underlying43 sz_42 rfl (by omega)) ?_ | refine GT_st rfl rfl rfl rfl (V_indexArrA (kk := 0) rfl rfl rfl Try.underlying43 sz_42 rfl (by omega)) ?_
        refine GT_st rfl rfl rfl rfl (V_load rfl rfl ag_42 (CellAt.item rfl)) ?_
        refine GT_st rfl rfl rfl rfl (V_convII rfl rfl (by rw [Try.underlying42]; rfl) Try.underlying2 (wrap_i64 (by omega))) ?_
        refine GT_st rfl rfl rfl rfl (V_add rfl rfl rfl (wrap_i64 (by omega))) ?_
        refine GT_st rfl rfl rfl rfl (V_min rfl rfl rfl) ?_
        first | refine GT_st rfl rfl rfl rfl (V_field rfl rfl fo_23_1) ?_ | refine GT_st rfl rfl rfl rfl (V_fieldA rfl rfl fo_23_1) ?_
        refine GT_store (vs := [_]) (l' := [_, _, _, _, _, _]) rfl rfl rfl rfl rfl rfl rfl sz_2 rfl rfl (Nat.le_of_ble_eq_true rfl) rfl (GR_nil) ?_
        refine GT_nil ?_
        refine GE_seq ?_
        refine GE_slots (L' := [(1, _), (4, _), (7, _), (9, _), (10, _), (16, _)]) ⟨rfl, rfl, rfl, rfl, rfl, rfl, trivial⟩ ?_
        refine GE_plain (.st 0 (.st 1 (.st 2 (.st 3 (.st 4 (.st 5 (.st 6 (.st 7 (.ld 8 [] .nil))))))))) rfl ?_
        first | refine GT_st rfl rfl rfl rfl (V_field rfl rfl fo_23_2) ?_ | refine GT_st rfl rfl rfl rfl (V_fieldA rfl rfl fo_23_2) ?_
        refine GT_st rfl rfl rfl rfl (V_load rfl rfl ag_2 (CellAt.item rfl)) ?_
        first | refine GT_st rfl rfl rfl rfl (V_indexArr (kk := 1) rfl rfl rfl Try.underlying43 sz_42 rfl (by omega)) ?_ | refine GT_st rfl rfl rfl rfl (V_indexArrA (kk := 1) rfl rfl rfl Try.underlying43 sz_42 rfl (by omega)) ?_
        refine GT_st rfl rfl rfl rfl (V_load rfl rfl ag_42 (CellAt.item rfl)) ?_
        refine GT_st rfl rfl rfl rfl (V_convII rfl rfl (by rw [Try.underlying42]; rfl) Try.underlying2 (wrap_i64 (by omega))) ?_
        refine GT_st rfl rfl rfl rfl (V_sub rfl rfl rfl (wrap_i64 (by omega))) ?_
        refine GT_st rfl rfl rfl rfl (V_max rfl rfl rfl) ?_
        first | refine GT_st rfl rfl rfl rfl (V_field rfl rfl fo_23_2) ?_ | refine GT_st rfl rfl rfl rfl (V_fieldA rfl rfl fo_23_2) ?_
        refine GT_store (vs := [_]) (l' := [_, _, _, _, _, _]) rfl rfl rfl rfl rfl rfl rfl sz_2 rfl rfl (Nat.le_of_ble_eq_true rfl) rfl (GR_nil) ?_
        refine GT_nil ?_
        refine GE_seq ?_
        refine GE_slots (L' := [(1, _), (4, _), (7, _), (9, _), (10, _), (16, _)]) ⟨rfl, rfl, rfl, rfl, rfl, rfl, trivial⟩ ?_
        refine GE_plain (.st 0 (.st 1 (.st 2 (.st 3 (.st 4 (.st 5 (.st 6 (.st 7 (.ld 8 [] .nil))))))))) rfl ?_
        first | refine GT_st rfl rfl rfl rfl (V_field rfl rfl fo_23_3) ?_ | refine GT_st rfl rfl rfl rfl (V_fieldA rfl rfl fo_23_3) ?_
        refine GT_st rfl rfl rfl rfl (V_load rfl rfl ag_2 (CellAt.item rfl)) ?_
        first | refine GT_st rfl rfl rfl rfl (V_indexArr (kk := 2) rfl rfl rfl Try.underlying43 sz_42 rfl (by omega)) ?_ | refine GT_st rfl rfl rfl rfl (V_indexArrA (kk := 2) rfl rfl rfl Try.underlying43 sz_42 rfl (by omega)) ?_
        refine GT_st rfl rfl rfl rfl (V_load rfl rfl ag_42 (CellAt.item rfl)) ?_
        refine GT_st rfl rfl rfl rfl (V_convII rfl rfl (by rw [Try.underlying42]; rfl) Try.underlying2 (wrap_i64 (by omega))) ?_
        refine GT_st rfl rfl rfl rfl (V_sub rfl rfl rfl (wrap_i64 (by omega))) ?_
        refine GT_st rfl rfl rfl rfl (V_max rfl rfl rfl) ?_
        first | refine GT_st rfl rfl rfl rfl (V_field rfl rfl fo_23_3) ?_ | refine GT_st rfl rfl rfl rfl (V_fieldA rfl rfl fo_23_3) ?_
        refine GT_store (vs := [_]) (l' := [_, _, _, _, _, _]) rfl rfl rfl rfl rfl rfl rfl sz_2 rfl rfl (Nat.le_of_ble_eq_true rfl) rfl (GR_nil) ?_
        refine GT_nil ?_
        refine GE_seq ?_
        refine GE_slots (L' := [(1, _), (4, _), (7, _), (9, _), (10, _), (16, _)]) ⟨rfl, rfl, rfl, rfl, rfl, rfl, trivial⟩ ?_
        refine GE_plain (.st 0 (.st 1 (.st 2 (.st 3 (.st 4 (.st 5 (.st 6 (.st 7 (.ld 8 [] .nil))))))))) rfl ?_
        first | refine GT_st rfl rfl rfl rfl (V_field rfl rfl fo_23_4) ?_ | refine GT_st rfl rfl rfl rfl (V_fieldA rfl rfl fo_23_4) ?_
        refine GT_st rfl rfl rfl rfl (V_load rfl rfl ag_2 (CellAt.item rfl)) ?_
        first | refine GT_st rfl rfl rfl rfl (V_indexArr (kk := 3) rfl rfl rfl Try.underlying43 sz_42 rfl (by omega)) ?_ | refine GT_st rfl rfl rfl rfl (V_indexArrA (kk := 3) rfl rfl rfl Try.underlying43 sz_42 rfl (by omega)) ?_
        refine GT_st rfl rfl rfl rfl (V_load rfl rfl ag_42 (CellAt.item rfl)) ?_
        refine GT_st rfl rfl rfl rfl (V_convII rfl rfl (by rw [Try.underlying42]; rfl) Try.underlying2 (wrap_i64 (by omega))) ?_
        refine GT_st rfl rfl rfl rfl (V_sub rfl rfl rfl (wrap_i64 (by omega))) ?_
        refine GT_st rfl rfl rfl rfl (V_max rfl rfl rfl) ?_
        first | refine GT_st rfl rfl rfl rfl (V_field rfl rfl fo_23_4) ?_ | refine GT_st rfl rfl rfl rfl (V_fieldA rfl rfl fo_23_4) ?_
        refine GT_store (vs := [_]) (l' := [_, _, _, _, _, _]) rfl rfl rfl rfl rfl rfl rfl sz_2 rfl rfl (Nat.le_of_ble_eq_true rfl) rfl (GR_nil) ?_
        refine GT_nil ?_
        refine GE_seq ?_
        refine GE_slots (L' := [(1, _), (4, _), (7, _), (9, _), (10, _), (16, _)]) ⟨rfl, rfl, rfl, rfl, rfl, rfl, trivial⟩ ?_
        refine GE_plain (.st 0 (.st 1 (.st 2 (.st 3 (.st 4 (.st 5 (.st 6 (.st 7 (.ld 8 [] .nil))))))))) rfl ?_
        first | refine GT_st rfl rfl rfl rfl (V_field rfl rfl fo_23_5) ?_ | refine GT_st rfl rfl rfl rfl (V_fieldA rfl rfl fo_23_5) ?_
        refine GT_st rfl rfl rfl rfl (V_load rfl rfl ag_2 (CellAt.item rfl)) ?_
        first | refine GT_st rfl rfl rfl rfl (V_indexArr (kk := 4) rfl rfl rfl Try.underlying43 sz_42 rfl (by omega)) ?_ | refine GT_st rfl rfl rfl rfl (V_indexArrA (kk := 4) rfl rfl rfl Try.underlying43 sz_42 rfl (by omega)) ?_
        refine GT_st rfl rfl rfl rfl (V_load rfl rfl ag_42 (CellAt.item rfl)) ?_
        refine GT_st rfl rfl rfl rfl (V_convII rfl rfl (by rw [Try.underlying42]; rfl) Try.underlying2 (wrap_i64 (by omega))) ?_
        refine GT_st rfl rfl rfl rfl (V_add rfl rfl rfl (wrap_i64 (by omega))) ?_
        refine GT_st rfl rfl rfl rfl (V_min rfl rfl rfl) ?_
        first | refine GT_st rfl rfl rfl rfl (V_field rfl rfl fo_23_5) ?_ | refine GT_st rfl rfl rfl rfl (V_fieldA rfl rfl fo_23_5) ?_
        refine GT_store (vs := [_]) (l' := [_, _, _, _, _, _]) rfl rfl rfl rfl rfl rfl rfl sz_2 rfl rfl (Nat.le_of_ble_eq_true rfl) rfl (GR_nil) ?_
        refine GT_nil ?_
        refine GE_seq ?_
        refine GE_slots (L' := [(1, _), (9, _), (10, _), (16, _)]) ⟨rfl, rfl, rfl, rfl, trivial⟩ ?_
        obtain ⟨he2, hmi⟩ := milder_both (l := l) he hz0.1 hz1.1 hz2.1 hz3.1 hz4.1
        refine GE_plain (.st 0 (.st 1 (.ld 2 [] (.st 3 (.st 4 (.st 5 (.st 6 (.st 7 .nil)))))))) rfl ?_
        refine GT_st rfl rfl rfl rfl (V_loadN (vs := [_, _, _, _, _, _]) rfl rfl ag_23 sz_23 rfl (CellsAt.item rfl)) ?_
        refine GT_st rfl rfl rfl rfl (V_move rfl rfl) ?_
        refine GT_call rfl rfl rfl rfl rfl rfl rfl rfl rn_17 (fun w hw => C_lathe_Outermost (b := milder b z0 z1 z2 z3 z4) (hp.sh hw)) (fun _ _ => GR_nil) (fun u hu => ?_)
        refine GT_st rfl rfl rfl rfl (V_move rfl rfl) ?_
        refine GT_st rfl rfl rfl rfl (V_extract rfl rfl rfl) ?_
        refine GT_st rfl rfl rfl rfl (V_extract rfl rfl rfl) ?_
        refine GT_st rfl rfl rfl rfl (V_assign rfl rfl) ?_
        refine GT_st rfl rfl rfl rfl (V_assign rfl rfl) ?_
        refine GT_nil ?_
        refine GE_seq ?_
        refine GE_seq ?_
        refine GE_slots (L' := [(9, _), (10, _), (17, _), (18, _)]) ⟨rfl, rfl, rfl, rfl, trivial⟩ ?_
        refine GE_plain (.st 0 (.st 1 .nil)) rfl ?_
        refine GT_st rfl rfl rfl rfl (V_move rfl rfl) ?_
        refine GT_st rfl rfl rfl rfl (V_neq rfl rfl rfl) ?_
        refine GT_nil ?_
        first | refine GE_condNot rfl (fun h6 => ?_) (fun h6 => ?_) | refine GE_cond rfl (fun h6 => ?_) (fun h6 => ?_) | refine GE_condNotB rfl (fun h6 => ?_) (fun h6 => ?_) | refine GE_condB rfl (fun h6 => ?_) (fun h6 => ?_)
        · obtain ⟨ho, e5, e6⟩ := outE_ne he h6
          refine GE_seq ?_
          refine GE_slots (L' := [(10, _)]) ⟨rfl, trivial⟩ ?_
          refine GE_plain (.st 0 (.st 1 (.st 2 (.ld 3 [] (.st 4 (.st 5 .nil)))))) rfl ?_
          refine GT_st rfl rfl rfl rfl (V_move rfl rfl) ?_
          refine GT_st rfl rfl rfl rfl (V_isT (V_eql rfl rfl rfl) e5) ?_
          refine GT_st rfl rfl rfl rfl (V_move rfl rfl) ?_
          refine GT_call0_g rfl rfl rfl rfl rfl rfl rfl rfl rfl rfl rfl rn_16 (fun w hw => C_law05_Works) (GR_nil) ?_
          refine GT_st rfl rfl rfl rfl (V_pick_t rfl rfl rfl) ?_
          refine GT_st rfl rfl rfl rfl (V_assign rfl rfl) ?_
          refine GT_nil ?_
          refine GE_ret Try.func6 rfl (fun w hw => ⟨?_, hw.nil⟩)
          rfl
        · obtain ⟨e5, e6, e7, e8⟩ := hmi.out he he2 h6
          refine GE_skip ?_
          refine GE_seq ?_
          refine GE_seq ?_
          refine GE_plain (.st 0 (.st 1 (.st 2 (.st 3 (.st 4 (.st 5 (.st 6 (.st 7 (.st 8 .nil))))))))) rfl ?_
          refine GT_st rfl rfl rfl rfl (V_move rfl rfl) ?_
          refine GT_st rfl rfl rfl rfl (V_isF (V_neq rfl rfl rfl) (fun h => h e5)) ?_
          refine GT_st rfl rfl rfl rfl (V_move rfl rfl) ?_
          refine GT_st_g rfl rfl rfl rfl rfl rfl rfl (V_move rfl rfl) ?_
          refine GT_st_g rfl rfl rfl rfl rfl rfl rfl (V_len rfl Try.underlying25 rfl) ?_
          refine GT_st_g rfl rfl rfl rfl rfl rfl rfl (V_move rfl rfl) ?_
          refine GT_st_g rfl rfl rfl rfl rfl rfl rfl (V_len rfl Try.underlying25 rfl) ?_
          refine GT_st_g rfl rfl rfl rfl rfl rfl rfl (V_isF (V_neq rfl rfl rfl) (fun h => h (by rw [e6, e7]))) ?_
          refine GT_st rfl rfl rfl rfl (V_pick_f rfl rfl rfl) ?_
          refine GT_nil ?_
          refine GE_cond_f rfl ?_
          refine GE_skip ?_
          refine GE_seq ?_
          refine GE_seq ?_
          refine GE_slots (L' := [(9, _), (17, _)]) ⟨rfl, rfl, trivial⟩ ?_
          refine GE_plain (.st 0 .nil) rfl ?_
          refine GT_st rfl rfl rfl rfl (V_assign rfl rfl) ?_
          refine GT_nil ?_
          refine GE_block ?_
          refine GE_to (GE_loop (ι := Nat) (fun k => l.length - k) (fun k => [(9, .slice y.1 (outR b l).length y.2.1), (17, .slice u.1 (outR (milder b z0 z1 z2 z3 z4) l).length u.2.1), (19, I k)]) (fun k => y.2.2 ++ u.2.2) (fun k => k ≤ l.length) ?_ 0 ?_) ⟨rfl, rfl, rfl, trivial⟩ (HS.chunk HS.last)
          · intro k hk ih
            refine GE_seq ?_
            refine GE_seq ?_
            refine GE_plain (.st 0 (.st 1 (.st 2 (.st 3 .nil)))) rfl ?_
            refine GT_st rfl rfl rfl rfl (V_move rfl rfl) ?_
            refine GT_st rfl rfl rfl rfl (V_move rfl rfl) ?_
            refine GT_st rfl rfl rfl rfl (V_len rfl Try.underlying25 rfl) ?_
            refine GT_st rfl rfl rfl rfl (V_lss rfl rfl rfl) ?_
            refine GT_nil ?_
            first | refine GE_condNot rfl (fun h7 => ?_) (fun h7 => ?_) | refine GE_cond rfl (fun h7 => ?_) (fun h7 => ?_) | refine GE_condNotB rfl (fun h7 => ?_) (fun h7 => ?_) | refine GE_condB rfl (fun h7 => ?_) (fun h7 => ?_)
            · have hlt : k < l.length := (by omega); have hab := e8 k hlt
              refine GE_skip ?_
              refine GE_seq ?_
              refine GE_block ?_
              refine GE_seq ?_
              refine GE_slots (L' := [(9, _), (17, _), (19, _)]) ⟨rfl, rfl, rfl, trivial⟩ ?_
              refine GE_drawn (.st 0 (.st 1 (.st 2 (.st 3 (.st 4 (.st 5 (.st 6 (.st 7 (.st 8 .nil))))))))) [] (by decide +kernel) ?_
              refine GT_st rfl rfl rfl rfl (V_move rfl rfl) ?_
              refine GT_st rfl rfl rfl rfl (V_move rfl rfl) ?_
              refine GT_st rfl rfl rfl rfl (V_index rfl rfl rfl Try.underlying25 sz_2 rfl (by omega) (hu.isSome (k := k) (by omega))) ?_
              refine GT_st rfl rfl rfl rfl (V_load rfl rfl ag_2 (CellAt.own0 hu eI_len (by omega) rfl)) ?_
              refine GT_st rfl rfl rfl rfl (V_move rfl rfl) ?_
              refine GT_st rfl rfl rfl rfl (V_move rfl rfl) ?_
              refine GT_st rfl rfl rfl rfl (V_index rfl rfl rfl Try.underlying25 sz_2 rfl (by omega) (hy.isSome (k := k) (by omega))) ?_
              refine GT_st rfl rfl rfl rfl (V_load rfl rfl ag_2 (CellAt.own0 hy eI_len (by omega) rfl)) ?_
              refine GT_st rfl rfl rfl rfl (V_isF (V_lss rfl rfl rfl) (by omega)) ?_
              refine GT_nil ?_
              refine GE_cond_f rfl ?_
              refine GE_skip ?_
              refine GE_inBlock ?_
              refine GE_slots (L' := [(9, _), (17, _), (19, _)]) ⟨rfl, rfl, rfl, trivial⟩ ?_
              refine GE_plain (.st 0 (.st 1 (.ld 2 [] .nil))) rfl ?_
              refine GT_st rfl rfl rfl rfl (V_move rfl rfl) ?_
              refine GT_st rfl rfl rfl rfl (V_add rfl rfl rfl (wrap_i64 (by omega))) ?_
              refine GT_ldv rfl rfl rfl rfl rfl (V_assign rfl rfl) (GR_nil) ?_
              refine GT_nil ?_
              exact GE_to (ih (k + 1) (by omega) (by omega)) ⟨rfl, rfl, rfl, trivial⟩ (HS.chunk HS.last)
            · skip
              refine GE_exit rfl ?_
              refine GE_seq ?_
              refine GE_slots (L' := []) trivial ?_
              refine GE_plain (.ld 0 [] (.st 1 .nil)) rfl ?_
              refine GT_call0 rfl rfl rfl rfl rfl rfl rfl rfl rn_16 (fun w hw => C_law05_Works) (GR_nil) ?_
              refine GT_st rfl rfl rfl rfl (V_assign rfl rfl) ?_
              refine GT_nil ?_
              refine GE_ret Try.func6 rfl (fun w hw => ⟨?_, hw.nil⟩)
              rfl
          · exact Nat.zero_le _
    · exact Nat.zero_le _
end Go.Proofs.Ytacmnmcaeflflaa
