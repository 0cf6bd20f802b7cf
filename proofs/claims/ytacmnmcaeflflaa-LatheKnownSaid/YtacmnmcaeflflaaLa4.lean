/- lathe: way, circle, and the function that yields the edges, walked -/
import Derived.Test.YtacmnmcaeflflaaLa3
namespace Go.Proofs.Ytacmnmcaeflflaa
open Go.Sx Go.Proofs

theorem hide {p : Prop} (h : p) : Go.RowKit.Hid p := h
/-- the steps of a way, from its end -/
def wsteps (last : List Edge) (x : Edge) (k : Nat) : List Stp := x.stp :: (List.range k).map fun i => (last.getD (back last i x.frm).toNat default).stp
theorem wsteps_length (last : List Edge) (x : Edge) (k : Nat) : (wsteps last x k).length = k + 1 := by simp [wsteps]
theorem wsteps_succ (last : List Edge) (x : Edge) (k : Nat) : wsteps last x k ++ [(last.getD (back last k x.frm).toNat default).stp] = wsteps last x (k + 1) := by simp [wsteps, List.range_succ]
/-- where a way has come to -/
def wat (last : List Edge) (x : Edge) : Nat → Edge
  | 0 => x
  | k + 1 => last.getD (back last k x.frm).toNat default
theorem wat_frm (last : List Edge) (x : Edge) : ∀ k, (wat last x k).frm = back last k x.frm
  | 0 => rfl
  | _ + 1 => rfl

theorem C_lathe_way {last : List Edge} {x : Edge} {A : Option Addr} {c m n : Nat} {w : World} (hn : n = last.length) (hr : RdL w 5 eEdge A last) (hq : ∀ i, i < m → 0 ≤ back last i x.frm ∧ back last i x.frm < last.length) (hm1 : back last m x.frm = -1) (hm2 : m ≤ 67108864) :
    Con Try.prog 62 [.slice A n c, .agg (eEdge x).toArray] w (fun y : Option Addr × Nat × Items => Own 2 62 eStp (wsteps last x m).reverse (.slice y.1 (wsteps last x m).length y.2.1) y.2.2)
      (fun y => .slice y.1 (wsteps last x m).length y.2.1) (fun y => y.2.2) := by
  subst hn
  refine Ret_of (vs := [_, _]) hm none' Try.func62 rfl Try.ntmps62 rfl ?_
  dsimp only [slotsOf]
  refine GE_seq ?_
  refine GE_plain (.ld 0 [] (.st 1 .nil)) rfl ?_
  refine GT_box (z := [_, _, _, _, _]) rfl rfl rfl rfl rfl rfl rfl (fun _ => GR_nil) (fun b3 => ?_)
  refine GT_st rfl rfl rfl rfl (V_assign rfl rfl) ?_
  refine GT_nil ?_
  refine GE_seq ?_
  refine GE_plain (.st 0 (.st 1 (.ld 2 [] (.st 3 .nil)))) rfl ?_
  first | refine GT_st rfl rfl rfl rfl (V_field rfl rfl fo_97_0) ?_ | refine GT_st rfl rfl rfl rfl (V_fieldA rfl rfl fo_97_0) ?_
  refine GT_st rfl rfl rfl rfl (V_loadN (vs := [_, _]) rfl rfl ag_62 sz_62 rfl (CellsAt.item rfl)) ?_
  refine GT_buildSlice (z := [_, _]) rfl rfl rfl rfl rfl Try.underlying56 zc_62 sz_62 (by decide) rfl rfl (fun _ => GR_nil) (fun b8 => ?_)
  refine GT_st rfl rfl rfl rfl (V_assign rfl rfl) ?_
  refine GT_nil ?_
  refine GE_seq ?_
  refine GE_block ?_
  refine GE_to (GE_loop (ι := Nat × Option Addr × Nat × Items) (fun y => m - y.1) (fun y => [(0, .slice A last.length c), (3, ptr b3 0), (5, .slice y.2.1 (wsteps last x y.1).length y.2.2.1)]) (fun y => y.2.2.2 ++ [(b3, blk (eEdge (wat last x y.1)) 97)]) (fun y => y.1 ≤ m ∧ Own 2 62 eStp (wsteps last x y.1) (.slice y.2.1 (wsteps last x y.1).length y.2.2.1) y.2.2.2) ?_ (0, some ⟨b8, 0, none⟩, 1, [(b8, blk (eStp x.stp) 62)]) ?_) ⟨rfl, rfl, rfl, trivial⟩ (show HS _ _ ((b8, blk (eStp x.stp) 62) :: (b3, blk (eEdge x) 97) :: []) from HS.cons rfl (HS.cons rfl HS.nil))
  · rintro ⟨k, A5, c5, I5⟩ ⟨hk, hO⟩ ih; dsimp only at hk hO ih ⊢; have hfr := wat_frm last x k
    refine GE_seq ?_
    refine GE_seq ?_
    refine GE_plain (.st 0 (.st 1 (.st 2 .nil))) rfl ?_
    first | refine GT_st rfl rfl rfl rfl (V_field rfl rfl fo_97_1) ?_ | refine GT_st rfl rfl rfl rfl (V_fieldA rfl rfl fo_97_1) ?_
    refine GT_st rfl rfl rfl rfl (V_load rfl rfl ag_3 (CellAt.item rfl)) ?_
    refine GT_st rfl rfl rfl rfl (V_neq rfl rfl rfl) ?_
    refine GT_nil ?_
    first | refine GE_condNot rfl (fun h1 => ?_) (fun h1 => ?_) | refine GE_cond rfl (fun h1 => ?_) (fun h1 => ?_) | refine GE_condNotB rfl (fun h1 => ?_) (fun h1 => ?_) | refine GE_condB rfl (fun h1 => ?_) (fun h1 => ?_)
    · have hkm : k < m := (by rcases Nat.lt_or_ge k m with h | h; exact h; obtain rfl : k = m := (by omega); exact absurd (hfr.trans hm1) h1)
      refine GE_skip ?_
      refine GE_block ?_
      refine GE_seq ?_
      refine GE_plain (.st 0 (.st 1 (.st 2 (.st 3 (.st 4 (.ld 5 [] .nil)))))) rfl ?_
      refine GT_st rfl rfl rfl rfl (V_move rfl rfl) ?_
      first | refine GT_st rfl rfl rfl rfl (V_field rfl rfl fo_97_1) ?_ | refine GT_st rfl rfl rfl rfl (V_fieldA rfl rfl fo_97_1) ?_
      refine GT_st rfl rfl rfl rfl (V_load rfl rfl ag_3 (CellAt.item rfl)) ?_
      refine GT_st rfl rfl rfl rfl (V_index rfl rfl rfl Try.underlying100 sz_97 (k := (back last k x.frm).toNat) (by have := hq k hkm; omega) (by have := hq k hkm; omega) (hr.isSome (k := (back last k x.frm).toNat) (by have := hq k hkm; omega))) ?_
      refine GT_st rfl rfl rfl rfl (V_loadN (vs := [_, _, _, _, _]) rfl rfl ag_97 sz_97 rfl (hr.ats noM (by have := hq k hkm; omega))) ?_
      refine GT_store (vs := [_, _, _, _, _]) (l' := [_, _, _, _, _]) rfl rfl rfl rfl rfl rfl rfl sz_97 rfl rfl (Nat.le_of_ble_eq_true rfl) rfl (GR_nil) ?_
      refine GT_nil ?_
      refine GE_slots (L' := [(0, _), (3, _), (5, _)]) ⟨rfl, rfl, rfl, trivial⟩ ?_
      refine GE_plain (.st 0 (.st 1 (.st 2 (.ld 3 [] (.ld 4 [] (.ld 5 [] .nil)))))) rfl ?_
      refine GT_st rfl rfl rfl rfl (V_move rfl rfl) ?_
      first | refine GT_st rfl rfl rfl rfl (V_field rfl rfl fo_97_0) ?_ | refine GT_st rfl rfl rfl rfl (V_fieldA rfl rfl fo_97_0) ?_
      refine GT_st rfl rfl rfl rfl (V_loadN (vs := [_, _]) rfl rfl ag_62 sz_62 rfl (CellsAt.item rfl)) ?_
      refine GT_buildSlice (z := [_, _]) rfl rfl rfl rfl rfl Try.underlying56 zc_62 sz_62 (by decide) rfl rfl (fun _ => GR_nil) (fun b20 => ?_)
      refine GT_append (enc := eStp) (m := [(last.getD (back last k x.frm).toNat default).stp]) rfl rfl rfl rfl rfl rfl rfl hO (fun w m => RdL.own' m eStp_len) Try.underlying56 zc_62 sz_62 ⟨rfl, by decide⟩ by_62 ⟨by rw [wsteps_length]; simp; omega, by rw [wsteps_length]; simp; omega⟩ eStp_len eStp_one (fun _ _ _ _ => GR_nil) (fun A' c' I' hO' => ?_)
      rw [wsteps_succ] at hO' ⊢
      refine GT_ldv rfl rfl rfl rfl rfl (V_assign rfl rfl) (GR_nil) ?_
      refine GT_nil ?_
      refine GE_inBlock ?_
      exact GE_to (ih (k + 1, A', c', I') ⟨by dsimp only; omega, hO'⟩ (by dsimp only; omega)) ⟨rfl, rfl, rfl, trivial⟩ (HS.chunk (HS.cons rfl HS.nil))
    · obtain rfl : k = m := (by rcases Nat.lt_or_ge k m with h | h; have := hq k h; omega; omega)
      refine GE_exit rfl ?_
      refine GE_seq ?_
      refine GE_slots (L' := [(5, _)]) ⟨rfl, trivial⟩ ?_
      refine GE_plain (.st 0 (.ld 1 [] .nil)) rfl ?_
      refine GT_st rfl rfl rfl rfl (V_move rfl rfl) ?_
      refine GT_callX rfl rfl rfl rfl rfl rfl rfl rfl rn_72 (fun w m => C_slices_Reverse m hO (by rw [wsteps_length]; omega)) (fun _ _ => GR_nil) (fun I6 hO6 => ?_)
      refine GT_nil ?_
      refine GE_seq ?_
      refine GE_plain (.st 0 (.st 1 .nil)) rfl ?_
      refine GT_st rfl rfl rfl rfl (V_move rfl rfl) ?_
      refine GT_st rfl rfl rfl rfl (V_assign rfl rfl) ?_
      refine GT_nil ?_
      refine GE_ret Try.func62 rfl (fun w hw => ?_)
      exact ⟨(A5, c5, I6), hO6, rfl, hw.chunk⟩
  · exact ⟨Nat.zero_le _, (show Own 2 62 eStp [x.stp] (.slice (some ⟨b8, 0, none⟩) 1 1) _ from Own.lit rfl rfl (by decide))⟩

/-- the steps of a circle, from its end -/
def csteps (last : List Edge) (v : Int) (k : Nat) : List Stp := (List.range k).map fun i => (last.getD (back last i v).toNat default).stp
theorem csteps_length (last : List Edge) (v : Int) (k : Nat) : (csteps last v k).length = k := by simp [csteps]
theorem csteps_succ (last : List Edge) (v : Int) (k : Nat) : csteps last v k ++ [(last.getD (back last k v).toNat default).stp] = csteps last v (k + 1) := by simp [csteps, List.range_succ]

/-- m is the first number of steps behind which it is back. -/
def Circ (last : List Edge) (v : Int) (m : Nat) : Prop := 0 < m ∧ back last m v = v ∧ ∀ j, 0 < j → j < m → back last j v ≠ v

theorem C_lathe_circle {last : List Edge} {v0 : Int} {A : Option Addr} {c m0 n : Nat} {w : World} (hnl : n = last.length) (hr : RdL w 5 eEdge A last) (hq : ∀ i, 0 ≤ back last i v0 ∧ back last i v0 < last.length) (hn : last.length ≤ 1000000) (h0 : 0 < m0) (hm0 : back last m0 (back last last.length v0) = back last last.length v0) (hle : m0 ≤ 1000000)
    (hq2 : ∀ i, 0 ≤ back last i (back last last.length v0) ∧ back last i (back last last.length v0) < last.length) :
    Con Try.prog 61 [.slice A n c, I v0] w (fun y : Nat × Option Addr × Nat × Items => Circ last (back last last.length v0) y.1 ∧ Own 2 62 eStp (csteps last (back last last.length v0) y.1).reverse (.slice y.2.1 (csteps last (back last last.length v0) y.1).length y.2.2.1) y.2.2.2)
      (fun y => .slice y.2.1 (csteps last (back last last.length v0) y.1).length y.2.2.1) (fun y => y.2.2.2) := by
  subst hnl
  generalize hv : back last last.length v0 = v at *
  have Hv := hide hv
  clear hv
  refine Ret_of (vs := [_, _]) hm none' Try.func61 rfl Try.ntmps61 rfl ?_
  dsimp only [slotsOf]
  refine GE_seq ?_
  refine GE_plain (.st 0 .nil) rfl ?_
  refine GT_st rfl rfl rfl rfl (V_assign rfl rfl) ?_
  refine GT_nil ?_
  refine GE_seq ?_
  refine GE_seq ?_
  refine GE_plain (.st 0 (.st 1 (.st 2 .nil))) rfl ?_
  refine GT_st rfl rfl rfl rfl (V_move rfl rfl) ?_
  refine GT_st rfl rfl rfl rfl (V_len rfl Try.underlying100 rfl) ?_
  refine GT_st rfl rfl rfl rfl (V_move rfl rfl) ?_
  refine GT_nil ?_
  refine GE_block ?_
  refine GE_to (GE_loop (ι := Nat) (fun k => last.length - k) (fun k => [(0, .slice A last.length c), (1, I (back last k v0)), (8, I last.length), (9, I k)]) (fun k => []) (fun k => k ≤ last.length) ?_ 0 ?_) ⟨rfl, rfl, rfl, rfl, trivial⟩ HS.nil
  · intro k hk ih
    refine GE_seq ?_
    refine GE_plain (.st 0 .nil) rfl ?_
    refine GT_st rfl rfl rfl rfl (V_lss rfl rfl rfl) ?_
    refine GT_nil ?_
    refine GE_seq ?_
    first | refine GE_condNot rfl (fun h1 => ?_) (fun h1 => ?_) | refine GE_cond rfl (fun h1 => ?_) (fun h1 => ?_) | refine GE_condNotB rfl (fun h1 => ?_) (fun h1 => ?_) | refine GE_condB rfl (fun h1 => ?_) (fun h1 => ?_)
    · have hqk := hq k
      refine GE_skip ?_
      refine GE_seq ?_
      refine GE_block ?_
      refine GE_plain (.st 0 (.st 1 (.st 2 (.st 3 (.st 4 (.ld 5 [] .nil)))))) rfl ?_
      refine GT_st rfl rfl rfl rfl (V_move rfl rfl) ?_
      refine GT_st rfl rfl rfl rfl (V_move rfl rfl) ?_
      refine GT_st rfl rfl rfl rfl (V_index rfl rfl rfl Try.underlying100 sz_97 (k := (back last k v0).toNat) (by omega) (by omega) (hr.isSome (k := k) (by omega))) ?_
      first | refine GT_st rfl rfl rfl rfl (V_field rfl rfl fo_97_1) ?_ | refine GT_st rfl rfl rfl rfl (V_fieldA rfl rfl fo_97_1) ?_
      refine GT_st rfl rfl rfl rfl (V_load rfl rfl ag_3 (hr.at1 noM (by omega) rfl)) ?_
      refine GT_ldv rfl rfl rfl rfl rfl (V_assign rfl rfl) (GR_nil) ?_
      refine GT_nil ?_
      refine GE_inBlock ?_
      refine GE_slots (L' := [(0, _), (1, _), (8, _), (9, _)]) ⟨rfl, rfl, rfl, rfl, trivial⟩ ?_
      refine GE_plain (.st 0 (.ld 1 [] .nil)) rfl ?_
      refine GT_st rfl rfl rfl rfl (V_add rfl rfl rfl (wrap_i64 (by omega))) ?_
      refine GT_ldv rfl rfl rfl rfl rfl (V_move rfl rfl) (GR_nil) ?_
      refine GT_nil ?_
      exact GE_to (ih (k + 1) (by omega) (by omega)) ⟨rfl, rfl, rfl, rfl, trivial⟩ HS.nil
    · obtain rfl : k = last.length := (by omega); rw [Hv.out]; have hqv := hq2 0; simp only [back] at hqv
      refine GE_exit rfl ?_
      refine GE_seq ?_
      refine GE_plain (.st 0 .nil) rfl ?_
      refine GT_st rfl rfl rfl rfl (V_assign rfl rfl) ?_
      refine GT_nil ?_
      refine GE_seq ?_
      refine GE_plain (.st 0 (.st 1 (.st 2 (.st 3 (.ld 4 [] (.ld 5 [] .nil)))))) rfl ?_
      refine GT_st rfl rfl rfl rfl (V_move rfl rfl) ?_
      refine GT_st rfl rfl rfl rfl (V_move rfl rfl) ?_
      refine GT_st rfl rfl rfl rfl (V_index rfl rfl rfl Try.underlying100 sz_97 (k := v.toNat) (by omega) (by omega) (hr.isSome (k := v.toNat) (by omega))) ?_
      refine GT_st rfl rfl rfl rfl (V_loadN (vs := [_, _, _, _, _]) rfl rfl ag_97 sz_97 rfl (hr.ats noM (by omega))) ?_
      refine GT_alloc rfl rfl rfl rfl rfl zc_97 (fun _ => GR_nil) (fun b6 => ?_)
      refine GT_store (vs := [_, _, _, _, _]) (l' := [_, _, _, _, _]) rfl rfl rfl rfl rfl rfl rfl sz_97 rfl rfl (Nat.le_of_ble_eq_true rfl) rfl (GR_nil) ?_
      refine GT_nil ?_
      refine GE_block ?_
      refine GE_to (GE_loop (ι := Nat × Nat × Option Addr × Nat × Items) (fun y => m0 - y.1) (fun y => [(0, .slice A last.length c), (1, I v), (5, .slice y.2.2.1 (csteps last v y.1).length y.2.2.2.1), (6, ptr y.2.1 0)]) (fun y => y.2.2.2.2 ++ [(y.2.1, blk (eEdge (last.getD (back last y.1 v).toNat default)) 97)]) (fun y => y.1 < m0 ∧ (∀ j, 0 < j → j ≤ y.1 → back last j v ≠ v) ∧ Own 2 62 eStp (csteps last v y.1) (.slice y.2.2.1 (csteps last v y.1).length y.2.2.2.1) y.2.2.2.2) ?_ (0, b6, none, 0, []) ?_) ⟨rfl, rfl, rfl, rfl, trivial⟩ (HS.chunk (HS.cons rfl HS.nil))
      · rintro ⟨k, b6, A5, c5, I5⟩ ⟨hk, hne, hO⟩ ih2; dsimp only at hk hne hO ih2 ⊢
        refine GE_seq ?_
        refine GE_block ?_
        refine GE_seq ?_
        refine GE_plain (.st 0 (.st 1 (.st 2 (.ld 3 [] (.ld 4 [] (.ld 5 [] .nil)))))) rfl ?_
        refine GT_st rfl rfl rfl rfl (V_move rfl rfl) ?_
        first | refine GT_st rfl rfl rfl rfl (V_field rfl rfl fo_97_0) ?_ | refine GT_st rfl rfl rfl rfl (V_fieldA rfl rfl fo_97_0) ?_
        refine GT_st rfl rfl rfl rfl (V_loadN (vs := [_, _]) rfl rfl ag_62 sz_62 rfl (CellsAt.item rfl)) ?_
        refine GT_buildSlice (z := [_, _]) rfl rfl rfl rfl rfl Try.underlying56 zc_62 sz_62 (by decide) rfl rfl (fun _ => GR_nil) (fun b29 => ?_)
        refine GT_append (enc := eStp) (m := [(last.getD (back last k v).toNat default).stp]) rfl rfl rfl rfl rfl rfl rfl hO (fun w m => RdL.own' m eStp_len) Try.underlying56 zc_62 sz_62 ⟨rfl, by decide⟩ by_62 ⟨by rw [csteps_length]; simp; omega, by rw [csteps_length]; simp; omega⟩ eStp_len eStp_one (fun _ _ _ _ => GR_nil) (fun A' c' I' hO' => ?_)
        rw [csteps_succ] at hO' ⊢
        refine GT_ldv rfl rfl rfl rfl rfl (V_assign rfl rfl) (GR_nil) ?_
        refine GT_nil ?_
        refine GE_seq ?_
        refine GE_slots (L' := [(0, _), (1, _), (5, _), (6, _)]) ⟨rfl, rfl, rfl, rfl, trivial⟩ ?_
        refine GE_plain (.st 0 (.st 1 (.st 2 (.st 3 .nil)))) rfl ?_
        first | refine GT_st rfl rfl rfl rfl (V_field rfl rfl fo_97_1) ?_ | refine GT_st rfl rfl rfl rfl (V_fieldA rfl rfl fo_97_1) ?_
        refine GT_st rfl rfl rfl rfl (V_load rfl rfl ag_3 (CellAt.item rfl)) ?_
        refine GT_st rfl rfl rfl rfl (V_move rfl rfl) ?_
        refine GT_st rfl rfl rfl rfl (V_eql rfl rfl rfl) ?_
        refine GT_nil ?_
        first | refine GE_condNot rfl (fun h2 => ?_) (fun h2 => ?_) | refine GE_cond rfl (fun h2 => ?_) (fun h2 => ?_) | refine GE_condNotB rfl (fun h2 => ?_) (fun h2 => ?_) | refine GE_condB rfl (fun h2 => ?_) (fun h2 => ?_)
        · skip
          refine GE_seq ?_
          refine GE_slots (L' := [(5, _)]) ⟨rfl, trivial⟩ ?_
          refine GE_plain (.st 0 (.ld 1 [] .nil)) rfl ?_
          refine GT_st rfl rfl rfl rfl (V_move rfl rfl) ?_
          refine GT_callX rfl rfl rfl rfl rfl rfl rfl rfl rn_72 (fun w m => C_slices_Reverse m hO' (by rw [csteps_length]; omega)) (fun _ _ => GR_nil) (fun I6 hO6 => ?_)
          refine GT_nil ?_
          refine GE_seq ?_
          refine GE_plain (.st 0 (.st 1 .nil)) rfl ?_
          refine GT_st rfl rfl rfl rfl (V_move rfl rfl) ?_
          refine GT_st rfl rfl rfl rfl (V_assign rfl rfl) ?_
          refine GT_nil ?_
          refine GE_ret Try.func61 rfl (fun w hw => ?_)
          exact ⟨(k + 1, A', c', I6), ⟨⟨by dsimp only; omega, h2, (fun j hj1 hj2 => hne j hj1 (by dsimp only at hj2; omega))⟩, hO6⟩, rfl, hw.chunk⟩
        · have hqn := hq2 (k + 1)
          refine GE_skip ?_
          refine GE_inBlock ?_
          refine GE_seq ?_
          refine GE_seq ?_
          refine GE_slots (L' := [(0, _), (1, _), (5, _), (6, _)]) ⟨rfl, rfl, rfl, rfl, trivial⟩ ?_
          refine GE_plain (.st 0 .nil) rfl ?_
          refine GT_st rfl rfl rfl rfl (V_loadN (vs := [_, _, _, _, _]) rfl rfl ag_97 sz_97 rfl (CellsAt.item rfl)) ?_
          refine GT_nil ?_
          refine GE_plain (.ld 0 [] (.ld 1 [] .nil)) rfl ?_
          refine GT_alloc rfl rfl rfl rfl rfl zc_97 (fun _ => GR_nil) (fun b6 => ?_)
          refine GT_store (vs := [_, _, _, _, _]) (l' := [_, _, _, _, _]) rfl rfl rfl rfl rfl rfl rfl sz_97 rfl rfl (Nat.le_of_ble_eq_true rfl) rfl (GR_nil) ?_
          refine GT_nil ?_
          refine GE_plain (.st 0 (.st 1 (.st 2 (.st 3 (.st 4 (.ld 5 [] .nil)))))) rfl ?_
          refine GT_st rfl rfl rfl rfl (V_move rfl rfl) ?_
          first | refine GT_st rfl rfl rfl rfl (V_field rfl rfl fo_97_1) ?_ | refine GT_st rfl rfl rfl rfl (V_fieldA rfl rfl fo_97_1) ?_
          refine GT_st rfl rfl rfl rfl (V_load rfl rfl ag_3 (CellAt.item rfl)) ?_
          refine GT_st rfl rfl rfl rfl (V_index rfl rfl rfl Try.underlying100 sz_97 (k := (back last (k + 1) v).toNat) (show par last (back last k v) = _ by have : back last (k + 1) v = par last (back last k v) := rfl; omega) (by omega) (hr.isSome (k := (back last (k + 1) v).toNat) (by omega))) ?_
          refine GT_st rfl rfl rfl rfl (V_loadN (vs := [_, _, _, _, _]) rfl rfl ag_97 sz_97 rfl (hr.ats noM (by omega))) ?_
          refine GT_store (vs := [_, _, _, _, _]) (l' := [_, _, _, _, _]) rfl rfl rfl rfl rfl rfl rfl sz_97 rfl rfl (Nat.le_of_ble_eq_true rfl) rfl (GR_nil) ?_
          refine GT_nil ?_
          exact GE_to (ih2 (k + 1, b6, A', c', I') ⟨by dsimp only; rcases Nat.lt_or_ge (k + 1) m0 with h | h; exact h; exfalso; obtain rfl : k + 1 = m0 := (by omega); exact h2 hm0, (fun j hj1 hj2 => by dsimp only at hj2; rcases Nat.lt_or_ge j (k + 1) with h | h; exact hne j hj1 (by omega); obtain rfl : j = k + 1 := (by omega); exact h2), hO'⟩ (by dsimp only; omega)) ⟨rfl, rfl, rfl, rfl, trivial⟩ (HS.chunk (HS.cons rfl HS.nil))
      · exact ⟨h0, (fun j h1 h2 => by dsimp only at h2; omega), Own.nil⟩
  · exact Nat.zero_le _
end Go.Proofs.Ytacmnmcaeflflaa
