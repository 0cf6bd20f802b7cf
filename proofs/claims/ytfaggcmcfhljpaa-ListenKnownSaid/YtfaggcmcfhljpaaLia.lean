/- The next disc, walked. -/
import Derived.Test.YtfaggcmcfhljpaaLi9
namespace Go.Proofs.Ytfaggcmcfhljpaa
open Go.Sx Go.Proofs

section
variable {p : List Plt} {d : List Dsc} {h : List Hrg} {A A2 A5 : Option Addr} {c c2 c5 : Nat} {side : Int} {w : World}
/-- the closure's cells: has0 are the discs of the first cause -/
theorem C_Next1 {x : SusA} {A0 : Option Addr} {n0 c0 g2 : Nat} {has0 : List Bool} (hb : BlkAt w g2 [.func (.func 50) #[.slice A0 n0 c0] #[]] 102) (h0 : RdL w 1 eB A0 has0) (hn0 : n0 = has0.length) (hx : RdL w 1 eB x.A x.x.has) (hnx : x.n = x.x.has.length) (hle : has0.length ≤ 1000000) :
    Con0 Try.prog 52 [.agg (eSus x).toArray, ptr g2 0] w (.bool (!(has0 == x.x.has))) := by
  subst hn0
  obtain ⟨xx, Ax, nx, cx⟩ := x
  dsimp only at hx hnx ⊢
  subst hnx
  refine Ret_of (vs := [_, _]) hm none' Try.func52 rfl Try.ntmps52 rfl ?_
  dsimp only [slotsOf]
  refine GE_seq ?_
  refine GE_plain (.ld 0 [] (.st 1 .nil)) rfl ?_
  refine GT_box (z := [_, _, _]) rfl rfl rfl rfl rfl rfl rfl (fun _ => GR_nil) (fun b2 => ?_)
  refine GT_st rfl rfl rfl rfl (V_assign rfl rfl) ?_
  refine GT_nil ?_
  refine GE_seq ?_
  refine GE_plain (.st 0 (.st 1 (.st 2 (.ld 3 [] (.st 4 (.st 5 .nil)))))) rfl ?_
  first | refine GT_st rfl rfl rfl rfl (V_load rfl rfl ag_102 (CellAt.item rfl)) ?_ | refine GT_st rfl rfl rfl rfl (V_load rfl rfl ag_102 (CellAt.old (hb.cell rfl) (noM _))) ?_
  first | refine GT_st rfl rfl rfl rfl (V_field rfl rfl fo_93_1) ?_ | refine GT_st rfl rfl rfl rfl (V_fieldA rfl rfl fo_93_1) ?_
  first | refine GT_st rfl rfl rfl rfl (V_load rfl rfl ag_91 (CellAt.item rfl)) ?_ | refine GT_st rfl rfl rfl rfl (V_load rfl rfl ag_91 (CellAt.old (hb.cell rfl) (noM _))) ?_
  refine GT_call0 rfl rfl rfl rfl rfl rfl rfl rfl rn_50 (fun w hw => C_set_equal (h0.sh hw) (hx.sh hw) hle) (GR_nil) ?_
  first | refine GT_st rfl rfl rfl rfl (V_not rfl rfl) ?_ | refine GT_st rfl rfl rfl rfl (V_notB rfl rfl) ?_
  refine GT_st rfl rfl rfl rfl (V_assign rfl rfl) ?_
  refine GT_nil ?_
  refine GE_ret Try.func52 rfl (fun w hw => ⟨?_, hw.nil⟩)
  rfl
theorem C_IndexFunc {l : List SusA} {Al A0 : Option Addr} {n0 c0 cl g2 : Nat} {has0 : List Bool} (hb : BlkAt w g2 [.func (.func 50) #[.slice A0 n0 c0] #[]] 102) (h0 : RdL w 1 eB A0 has0) (hn0 : n0 = has0.length) (hle : has0.length ≤ 1000000)
    (hl : RdL w 3 eSus Al l) (hhas : ∀ y ∈ l, RdL w 1 eB y.A y.x.has) (hn : ∀ y ∈ l, y.n = y.x.has.length) (hll : l.length ≤ 70000) :
    Con Try.prog 67 [.slice Al l.length cl, .func (.func 52) #[] #[ptr g2 0]] w (fun i : Int => (0 ≤ i ∧ (l.all fun y => has0 == y.x.has) = false) ∨ (i = -1 ∧ (l.all fun y => has0 == y.x.has) = true)) (fun i => I i) (fun _ => []) := by
  refine Ret_of (vs := [_, _]) hm none' Try.func67 rfl Try.ntmps67 rfl ?_
  dsimp only [slotsOf]
  refine GE_seq ?_
  refine GE_plain (.st 0 .nil) rfl ?_
  refine GT_st rfl rfl rfl rfl (V_assign rfl rfl) ?_
  refine GT_nil ?_
  refine GE_seq ?_
  refine GE_seq ?_
  refine GE_plain (.st 0 (.st 1 (.st 2 .nil))) rfl ?_
  refine GT_st rfl rfl rfl rfl (V_move rfl rfl) ?_
  refine GT_st rfl rfl rfl rfl (V_len rfl Try.underlying87 rfl) ?_
  refine GT_st rfl rfl rfl rfl (V_move rfl rfl) ?_
  refine GT_nil ?_
  refine GE_block ?_
  refine GE_to (GE_loop (ι := Nat) (fun k => l.length - k) (fun k => [(0, .slice Al l.length cl), (1, .func (.func 52) #[] #[ptr g2 0]), (7, I l.length), (8, I k)]) (fun k => []) (fun k => k ≤ l.length ∧ ∀ q, q < k → (has0 == (l.getD q default).x.has) = true) ?_ 0 ?_) ⟨rfl, rfl, rfl, rfl, trivial⟩ HS.nil
  · rintro k ⟨hk, hall⟩ ih
    refine GE_seq ?_
    refine GE_plain (.st 0 .nil) rfl ?_
    refine GT_st rfl rfl rfl rfl (V_lss rfl rfl rfl) ?_
    refine GT_nil ?_
    refine GE_seq ?_
    first | refine GE_condNot rfl (fun h1 => ?_) (fun h1 => ?_) | refine GE_cond rfl (fun h1 => ?_) (fun h1 => ?_) | refine GE_condNotB rfl (fun h1 => ?_) (fun h1 => ?_) | refine GE_condB rfl (fun h1 => ?_) (fun h1 => ?_)
    · have hkl : k < l.length := (by omega); have hym : l.getD k default ∈ l := (by simp [List.getD, hkl])
      refine GE_skip ?_
      refine GE_seq ?_
      refine GE_block ?_
      refine GE_seq ?_
      refine GE_plain (.st 0 (.st 1 .nil)) rfl ?_
      refine GT_st rfl rfl rfl rfl (V_move rfl rfl) ?_
      refine GT_st rfl rfl rfl rfl (V_assign rfl rfl) ?_
      refine GT_nil ?_
      refine GE_seq ?_
      refine GE_plain (.st 0 (.st 1 (.st 2 (.st 3 (.st 4 (.ld 5 [] .nil)))))) rfl ?_
      refine GT_st rfl rfl rfl rfl (V_move rfl rfl) ?_
      refine GT_st rfl rfl rfl rfl (V_move rfl rfl) ?_
      refine GT_st rfl rfl rfl rfl (V_move rfl rfl) ?_
      refine GT_st rfl rfl rfl rfl (V_index rfl rfl rfl Try.underlying87 sz_93 (k := k) rfl hkl (hl.isSome hkl)) ?_
      refine GT_st rfl rfl rfl rfl (V_loadN (vs := [_, _, _]) rfl rfl ag_93 sz_93 rfl (hl.ats noM hkl)) ?_
      refine GT_call0 rfl rfl rfl rfl rfl rfl rfl rfl rn_52 (fun w hw => C_Next1 (hb.sh hw) (h0.sh hw) hn0 ((hhas _ hym).sh hw) (hn _ hym) hle) (GR_nil) ?_
      refine GT_nil ?_
      first | refine GE_condNot rfl (fun h2 => ?_) (fun h2 => ?_) | refine GE_cond rfl (fun h2 => ?_) (fun h2 => ?_) | refine GE_condNotB rfl (fun h2 => ?_) (fun h2 => ?_) | refine GE_condB rfl (fun h2 => ?_) (fun h2 => ?_)
      · skip
        refine GE_seq ?_
        refine GE_slots (L' := [(5, _)]) ⟨rfl, trivial⟩ ?_
        refine GE_plain (.st 0 (.st 1 .nil)) rfl ?_
        refine GT_st rfl rfl rfl rfl (V_move rfl rfl) ?_
        refine GT_st rfl rfl rfl rfl (V_assign rfl rfl) ?_
        refine GT_nil ?_
        refine GE_ret Try.func67 rfl (fun w hw => ?_)
        exact ⟨(k : Int), .inl ⟨by omega, by rw [← Bool.not_eq_true, List.all_eq_true]; intro q; have := q _ hym; rw [this] at h2; cases h2⟩, rfl, hw.nil⟩
      · skip
        refine GE_skip ?_
        refine GE_inBlock ?_
        refine GE_slots (L' := [(0, _), (1, _), (7, _), (8, _)]) ⟨rfl, rfl, rfl, rfl, trivial⟩ ?_
        refine GE_plain (.st 0 (.ld 1 [] .nil)) rfl ?_
        refine GT_st rfl rfl rfl rfl (V_add rfl rfl rfl (wrap_i64 (by omega))) ?_
        refine GT_ldv rfl rfl rfl rfl rfl (V_move rfl rfl) (GR_nil) ?_
        refine GT_nil ?_
        exact GE_to (ih (k + 1) ⟨by omega, fun q hq => by rcases Nat.lt_or_ge q k with r | r; exact hall q r; rw [show q = k by omega]; simpa using h2⟩ (by omega)) ⟨rfl, rfl, rfl, rfl, trivial⟩ HS.nil
    · obtain rfl : k = l.length := (by omega)
      refine GE_exit rfl ?_
      refine GE_seq ?_
      refine GE_slots (L' := []) trivial ?_
      refine GE_plain (.st 0 .nil) rfl ?_
      refine GT_st rfl rfl rfl rfl (V_assign rfl rfl) ?_
      refine GT_nil ?_
      refine GE_ret Try.func67 rfl (fun w hw => ?_)
      exact ⟨-1, .inr ⟨rfl, by rw [List.all_eq_true]; intro y hy; obtain ⟨q, hq, rfl⟩ := List.getElem_of_mem hy; have := hall q hq; simpa [List.getD, hq] using this⟩, rfl, hw.nil⟩
  · exact ⟨Nat.zero_le _, fun j hj => absurd hj (Nat.not_lt_zero _)⟩
theorem C_ContainsFunc {l : List SusA} {Al A0 : Option Addr} {n0 c0 cl g2 : Nat} {has0 : List Bool} (hb : BlkAt w g2 [.func (.func 50) #[.slice A0 n0 c0] #[]] 102) (h0 : RdL w 1 eB A0 has0) (hn0 : n0 = has0.length) (hle : has0.length ≤ 1000000)
    (hl : RdL w 3 eSus Al l) (hhas : ∀ y ∈ l, RdL w 1 eB y.A y.x.has) (hn : ∀ y ∈ l, y.n = y.x.has.length) (hll : l.length ≤ 70000) :
    Con0 Try.prog 51 [.slice Al l.length cl, .func (.func 52) #[] #[ptr g2 0]] w (.bool (!(l.all fun y => has0 == y.x.has))) := by
  refine Ret_of (vs := [_, _]) hm none' Try.func51 rfl Try.ntmps51 rfl ?_
  dsimp only [slotsOf]
  refine GE_seq ?_
  refine GE_plain (.st 0 .nil) rfl ?_
  refine GT_st rfl rfl rfl rfl (V_assign rfl rfl) ?_
  refine GT_nil ?_
  refine GE_seq ?_
  refine GE_plain (.st 0 (.st 1 (.ld 2 [] (.st 3 (.st 4 .nil))))) rfl ?_
  refine GT_st rfl rfl rfl rfl (V_move rfl rfl) ?_
  refine GT_st rfl rfl rfl rfl (V_move rfl rfl) ?_
  refine GT_call rfl rfl rfl rfl rfl rfl rfl rfl rn_67 (fun w hw => C_IndexFunc (hb.sh hw) (h0.sh hw) hn0 hle (hl.sh hw) (fun y hy => (hhas y hy).sh hw) hn hll) (fun _ _ => GR_nil) (fun i hi => ?_)
  refine GT_st rfl rfl rfl rfl (V_geq rfl rfl rfl) ?_
  refine GT_st rfl rfl rfl rfl (V_assign rfl rfl) ?_
  refine GT_nil ?_
  refine GE_ret Try.func51 rfl (fun w hw => ⟨?_, hw.nil⟩)
  rcases hi with ⟨h1, h2⟩ | ⟨h1, h2⟩ <;> rw [h2] <;> simp <;> omega
def nextE (p : List Plt) (d : List Dsc) (side : Int) (h : List Hrg) : Int × Int × Int := if hearE p d side h = 0 then nextR d (leftS p d side h) else (0, 0, hearE p d side h)
theorem same_iff {l : List SusA} (h0 : 0 < l.length) : (l.all fun y => (l.getD 0 default).x.has == y.x.has) = same (l.map SusA.x) := by
  unfold same
  rw [List.all_map]
  have e : ((l.map SusA.x).getD 0 default) = (l.getD 0 default).x := by simp [List.getD, h0]
  rw [e]
  congr 1
  funext y
  simp only [Function.comp_apply]
  rw [Bool.eq_iff_iff, beq_iff_eq, beq_iff_eq]
  exact eq_comm
theorem nextTo_bd (l : List Sus) (n : Nat) : (nextTo l n).1 ≤ n ∧ (nextTo l n).2 ≤ l.length ∧ (0 < n → (nextTo l n).1 < n) := by
  induction n with
  | zero => exact ⟨Nat.le_refl _, Nat.le_refl _, fun h => absurd h (Nat.lt_irrefl _)⟩
  | succ n ih =>
    obtain ⟨h1, h2, h3⟩ := ih
    have e : nextTo l (n + 1) = if max (mny l n) (l.length - mny l n) < (nextTo l n).2 then (n, max (mny l n) (l.length - mny l n)) else nextTo l n := rfl
    rw [e]
    split
    · rename_i hlt; exact ⟨by dsimp only; omega, by dsimp only; omega, fun _ => by dsimp only; omega⟩
    · refine ⟨by omega, h2, fun _ => by omega⟩

set_option maxRecDepth 10000 in
set_option maxHeartbeats 2000000 in
theorem C_Next (hp : RdL w 7 ePlt A p) (hwf : ∀ x ∈ p, Plt.wf x) (hd : RdL w 7 eDsc A2 d) (hdf : ∀ x ∈ d, Dsc.wf x) (hh : RdL w 2 eHrg A5 h) :
    Con0 Try.prog 27 [.slice A p.length c, .slice A2 d.length c2, I side, .slice A5 h.length c5] w (.tuple #[I (nextE p d side h).1, I (nextE p d side h).2.1, I (nextE p d side h).2.2]) := by
  by_cases he : hearE p d side h = 0
  · have hR := (hearE_zero.1 he).1
    have hle := leftS_le (h := h) hR
    have hdl := hR.dl
    have hE : nextE p d side h = nextR d (leftS p d side h) := if_pos he
    refine Ret_of (vs := [_, _, _, _]) hm none' Try.func27 rfl Try.ntmps27 rfl ?_
    dsimp only [slotsOf]
    refine GE_seq ?_
    refine GE_plain (.st 0 (.st 1 (.st 2 .nil))) rfl ?_
    refine GT_st rfl rfl rfl rfl (V_assign rfl rfl) ?_
    refine GT_st rfl rfl rfl rfl (V_assign rfl rfl) ?_
    refine GT_st rfl rfl rfl rfl (V_assign rfl rfl) ?_
    refine GT_nil ?_
    refine GE_seq ?_
    refine GE_plain (.st 0 (.st 1 (.st 2 (.st 3 (.ld 4 [] (.st 5 (.st 6 (.st 7 (.st 8 (.st 9 (.st 10 (.st 11 .nil)))))))))))) rfl ?_
    refine GT_st rfl rfl rfl rfl (V_move rfl rfl) ?_
    refine GT_st rfl rfl rfl rfl (V_move rfl rfl) ?_
    refine GT_st rfl rfl rfl rfl (V_move rfl rfl) ?_
    refine GT_st rfl rfl rfl rfl (V_move rfl rfl) ?_
    refine GT_call rfl rfl rfl rfl rfl rfl rfl rfl rn_46 (fun w hw => C_left_ok (hp.sh hw) hwf (hd.sh hw) hdf (hh.sh hw) he) (fun _ _ => GR_nil) (fun y hy => ?_)
    obtain ⟨g, A3, c3, I3, A4, c4, I4, l, Al, cl, Il, Ih⟩ := y; obtain ⟨hO3, hO4, hL⟩ := hy; dsimp only [LeftY.items] at hO3 hO4 hL ⊢; have hll := hL.len; have hE2 := hE; rw [← hL.eq] at hE2
    refine GT_st rfl rfl rfl rfl (V_move rfl rfl) ?_
    refine GT_st rfl rfl rfl rfl (V_extract rfl rfl rfl) ?_
    refine GT_st rfl rfl rfl rfl (V_extract rfl rfl rfl) ?_
    refine GT_st rfl rfl rfl rfl (V_extract rfl rfl rfl) ?_
    refine GT_st rfl rfl rfl rfl (V_assign rfl rfl) ?_
    refine GT_st rfl rfl rfl rfl (V_assign rfl rfl) ?_
    refine GT_st rfl rfl rfl rfl (V_assign rfl rfl) ?_
    refine GT_nil ?_
    refine GE_seq ?_
    refine GE_seq ?_
    refine GE_slots (L' := [(11, _), (12, _), (13, _)]) ⟨rfl, rfl, rfl, trivial⟩ ?_
    refine GE_plain (.st 0 (.st 1 .nil)) rfl ?_
    refine GT_st rfl rfl rfl rfl (V_move rfl rfl) ?_
    refine GT_st rfl rfl rfl rfl (V_neq rfl rfl rfl) ?_
    refine GT_nil ?_
    first | refine GE_condNot rfl (fun h1 => ?_) (fun h1 => ?_) | refine GE_cond rfl (fun h1 => ?_) (fun h1 => ?_) | refine GE_condNotB rfl (fun h1 => ?_) (fun h1 => ?_) | refine GE_condB rfl (fun h1 => ?_) (fun h1 => ?_)
    · exact absurd rfl h1
    · skip
      refine GE_skip ?_
      refine GE_seq ?_
      refine GE_seq ?_
      refine GE_plain (.st 0 (.st 1 (.st 2 .nil))) rfl ?_
      refine GT_st rfl rfl rfl rfl (V_move rfl rfl) ?_
      refine GT_st rfl rfl rfl rfl (V_len rfl Try.underlying87 rfl) ?_
      refine GT_st rfl rfl rfl rfl (V_eql rfl rfl rfl) ?_
      refine GT_nil ?_
      first | refine GE_condNot rfl (fun h2 => ?_) (fun h2 => ?_) | refine GE_cond rfl (fun h2 => ?_) (fun h2 => ?_) | refine GE_condNotB rfl (fun h2 => ?_) (fun h2 => ?_) | refine GE_condB rfl (fun h2 => ?_) (fun h2 => ?_)
      · have hnil : l = [] := List.eq_nil_of_length_eq_zero (by omega); rw [hnil] at hE2
        refine GE_seq ?_
        refine GE_slots (L' := []) trivial ?_
        refine GE_plain (.st 0 (.st 1 (.st 2 .nil))) rfl ?_
        refine GT_st rfl rfl rfl rfl (V_assign rfl rfl) ?_
        refine GT_st rfl rfl rfl rfl (V_assign rfl rfl) ?_
        refine GT_st rfl rfl rfl rfl (V_assign rfl rfl) ?_
        refine GT_nil ?_
        refine GE_ret Try.func27 ⟨_, _, _, rfl, rfl, rfl, rfl⟩ (fun w hw => ⟨?_, hw.nil⟩)
        rw [hE2]; rfl
      · have hl0 : 0 < l.length := (by omega); have hym : l.getD 0 default ∈ l := (by simp [List.getD, hl0]); have hn0 := hL.n _ hym; have hsi := same_iff hl0
        refine GE_skip ?_
        refine GE_seq ?_
        refine GE_slots (L' := [(11, _), (12, _)]) ⟨rfl, rfl, trivial⟩ ?_
        refine GE_plain (.st 0 (.st 1 (.st 2 (.st 3 (.st 4 (.ld 5 [] (.ld 6 [] .nil))))))) rfl ?_
        refine GT_st rfl rfl rfl rfl (V_move rfl rfl) ?_
        refine GT_st rfl rfl rfl rfl (V_index (k := 0) rfl rfl rfl Try.underlying87 sz_93 rfl hl0 (hL.own.isSome (k := 0) hl0)) ?_
        first | refine GT_st rfl rfl rfl rfl (V_field rfl rfl fo_93_1) ?_ | refine GT_st rfl rfl rfl rfl (V_fieldA rfl rfl fo_93_1) ?_
        refine GT_st rfl rfl rfl rfl (V_load rfl rfl ag_91 (CellAt.own hL.own eSus_len hl0 (j := 2) rfl)) ?_
        refine GT_st rfl rfl rfl rfl (V_makeFunc rfl rfl rfl) ?_
        refine GT_alloc rfl rfl rfl rfl rfl zc_102 (fun _ => GR_nil) (fun b14 => ?_)
        refine GT_store (vs := [_]) (l' := [_]) rfl rfl rfl rfl rfl rfl rfl sz_102 rfl rfl (Nat.le_of_ble_eq_true rfl) rfl (GR_nil) ?_
        refine GT_nil ?_
        refine GE_seq ?_
        refine GE_seq ?_
        refine GE_slots (L' := [(11, _), (12, _), (14, _)]) ⟨rfl, rfl, rfl, trivial⟩ ?_
        refine GE_plain (.st 0 (.st 1 (.ld 2 [] (.st 3 .nil)))) rfl ?_
        refine GT_st rfl rfl rfl rfl (V_move rfl rfl) ?_
        refine GT_st rfl rfl rfl rfl (V_makeFunc rfl rfl rfl) ?_
        refine GT_call0 rfl rfl rfl rfl rfl rfl rfl rfl rn_51 (fun w hw => C_ContainsFunc (has0 := (l.getD 0 default).x.has) (BlkAt.of hw) (hL.hold _ _ _ (hw.chunk (I := Ih)) _ hym) (by omega) (by omega) (hL.own.rdH eSus_len hw) (hL.hold _ _ _ (hw.chunk (I := Ih))) (fun y hy => by have := hL.n y hy; omega) (by omega)) (GR_nil) ?_
        first | refine GT_st rfl rfl rfl rfl (V_not rfl rfl) ?_ | refine GT_st rfl rfl rfl rfl (V_notB rfl rfl) ?_
        refine GT_nil ?_
        first | refine GE_condNot rfl (fun h3 => ?_) (fun h3 => ?_) | refine GE_cond rfl (fun h3 => ?_) (fun h3 => ?_) | refine GE_condNotB rfl (fun h3 => ?_) (fun h3 => ?_) | refine GE_condB rfl (fun h3 => ?_) (fun h3 => ?_)
        · have hs : same (l.map SusA.x) = true := (by rw [← hsi]; simpa using h3)
          refine GE_seq ?_
          refine GE_slots (L' := []) trivial ?_
          refine GE_plain (.st 0 (.st 1 (.st 2 .nil))) rfl ?_
          refine GT_st rfl rfl rfl rfl (V_assign rfl rfl) ?_
          refine GT_st rfl rfl rfl rfl (V_assign rfl rfl) ?_
          refine GT_st rfl rfl rfl rfl (V_assign rfl rfl) ?_
          refine GT_nil ?_
          refine GE_ret Try.func27 ⟨_, _, _, rfl, rfl, rfl, rfl⟩ (fun w hw => ⟨?_, hw.nil⟩)
          rw [hE2]; unfold nextR; rw [hs]; rfl
        · have hs : same (l.map SusA.x) = false := (by rw [← hsi]; simpa using h3)
          refine GE_skip ?_
          refine GE_seq ?_
          refine GE_slots (L' := [(11, _), (12, _)]) ⟨rfl, rfl, trivial⟩ ?_
          refine GE_plain (.st 0 (.st 1 (.st 2 (.st 3 .nil)))) rfl ?_
          refine GT_st rfl rfl rfl rfl (V_move rfl rfl) ?_
          refine GT_st rfl rfl rfl rfl (V_len rfl Try.underlying87 rfl) ?_
          refine GT_st rfl rfl rfl rfl (V_assign rfl rfl) ?_
          refine GT_st rfl rfl rfl rfl (V_assign rfl rfl) ?_
          refine GT_nil ?_
          refine GE_seq ?_
          refine GE_seq ?_
          refine GE_plain (.st 0 (.st 1 (.ld 2 [] (.st 3 (.st 4 .nil))))) rfl ?_
          refine GT_st rfl rfl rfl rfl (V_move rfl rfl) ?_
          refine GT_st rfl rfl rfl rfl (V_move rfl rfl) ?_
          refine GT_call rfl rfl rfl rfl rfl rfl rfl rfl rn_53 (fun w hw => C_many (BlkAt.of hw) (hL.own.rdH eSus_len hw) (hL.hold _ _ _ (hw.chunk (I := Ih))) hL.n hdl (by omega)) (fun _ _ => GR_nil) (fun u hu => ?_)
          refine GT_st rfl rfl rfl rfl (V_len rfl Try.underlying66 rfl) ?_
          refine GT_st rfl rfl rfl rfl (V_move rfl rfl) ?_
          refine GT_nil ?_
          refine GE_block ?_
          refine GE_to (GE_loop (ι := Nat) (fun k => d.length - k) (fun k => [(11, ptr g 0), (12, .slice Al l.length cl), (15, I (nextTo (l.map SusA.x) k).1), (16, I (nextTo (l.map SusA.x) k).2), (47, .slice (some ⟨u.1, 0, none⟩) d.length d.length), (48, I d.length), (49, I k)]) (fun k => (g, blk (roomC A A3 A4 p.length d.length c c3 c4) 101) :: (u.2 ++ I3)) (fun k => k ≤ d.length) ?_ 0 ?_) ⟨rfl, rfl, rfl, lookI rfl (by show ((l.length : Nat) : Int) = ((l.map SusA.x).length : Nat); rw [List.length_map]), rfl, rfl, rfl, trivial⟩ (HS.cons rfl (HS.chunk HS.last))
          · intro k hk ih; have hnb := nextTo_bd (l.map SusA.x) k; rw [List.length_map] at hnb
            refine GE_seq ?_
            refine GE_plain (.st 0 .nil) rfl ?_
            refine GT_st rfl rfl rfl rfl (V_lss rfl rfl rfl) ?_
            refine GT_nil ?_
            refine GE_seq ?_
            first | refine GE_condNot rfl (fun h4 => ?_) (fun h4 => ?_) | refine GE_cond rfl (fun h4 => ?_) (fun h4 => ?_) | refine GE_condNotB rfl (fun h4 => ?_) (fun h4 => ?_) | refine GE_condB rfl (fun h4 => ?_) (fun h4 => ?_)
            · have hkl : k < d.length := (by omega); have hml := mny_le (l.map SusA.x) k; rw [List.length_map] at hml; have hst : nextTo (l.map SusA.x) (k + 1) = if max (mny (l.map SusA.x) k) (l.length - mny (l.map SusA.x) k) < (nextTo (l.map SusA.x) k).2 then (k, max (mny (l.map SusA.x) k) (l.length - mny (l.map SusA.x) k)) else nextTo (l.map SusA.x) k := (by rw [nextTo, List.length_map]); have hmx : max (mny (l.map SusA.x) k : Int) ((l.length : Int) - mny (l.map SusA.x) k) = ((max (mny (l.map SusA.x) k) (l.length - mny (l.map SusA.x) k) : Nat) : Int) := (by omega)
              refine GE_skip ?_
              refine GE_seq ?_
              refine GE_block ?_
              refine GE_seq ?_
              refine GE_plain (.st 0 (.st 1 (.st 2 (.st 3 (.st 4 .nil))))) rfl ?_
              refine GT_st rfl rfl rfl rfl (V_move rfl rfl) ?_
              refine GT_st rfl rfl rfl rfl (V_index rfl rfl rfl Try.underlying66 sz_3 (k := k) rfl hkl rfl) ?_
              refine GT_st rfl rfl rfl rfl (V_load rfl rfl ag_3 (CellAt.own0 hu eI_len (by rw [manyL_len]; omega) (by rw [manyL_get hkl]; rfl))) ?_
              refine GT_st rfl rfl rfl rfl (V_assign rfl rfl) ?_
              refine GT_st rfl rfl rfl rfl (V_assign rfl rfl) ?_
              refine GT_nil ?_
              refine GE_seq ?_
              refine GE_slots (L' := [(11, _), (12, _), (15, _), (16, _), (17, _), (18, _), (47, _), (48, _), (49, _)]) ⟨rfl, rfl, rfl, rfl, rfl, rfl, rfl, rfl, rfl, trivial⟩ ?_
              refine GE_plain (.st 0 (.st 1 (.st 2 (.st 3 (.st 4 (.st 5 (.ld 6 [] .nil))))))) rfl ?_
              refine GT_st rfl rfl rfl rfl (V_move rfl rfl) ?_
              refine GT_st rfl rfl rfl rfl (V_move rfl rfl) ?_
              refine GT_st rfl rfl rfl rfl (V_len rfl Try.underlying87 rfl) ?_
              refine GT_st rfl rfl rfl rfl (V_move rfl rfl) ?_
              refine GT_st rfl rfl rfl rfl (V_sub rfl rfl rfl (wrap_i64 (by omega))) ?_
              refine GT_st rfl rfl rfl rfl (V_max rfl rfl rfl) ?_
              refine GT_ldv rfl rfl rfl rfl rfl (V_assign rfl rfl) (GR_nil) ?_
              refine GT_nil ?_
              refine GE_seq ?_
              refine GE_slots (L' := [(11, _), (12, _), (15, _), (16, _), (17, _), (18, _), (47, _), (48, _), (49, _)]) ⟨rfl, rfl, rfl, rfl, rfl, rfl, rfl, rfl, rfl, trivial⟩ ?_
              refine GE_plain (.st 0 (.st 1 (.st 2 .nil))) rfl ?_
              refine GT_st rfl rfl rfl rfl (V_move rfl rfl) ?_
              refine GT_st rfl rfl rfl rfl (V_move rfl rfl) ?_
              refine GT_st rfl rfl rfl rfl (V_lss rfl rfl rfl) ?_
              refine GT_nil ?_
              first | refine GE_condNot rfl (fun h5 => ?_) (fun h5 => ?_) | refine GE_cond rfl (fun h5 => ?_) (fun h5 => ?_) | refine GE_condNotB rfl (fun h5 => ?_) (fun h5 => ?_) | refine GE_condB rfl (fun h5 => ?_) (fun h5 => ?_)
              · have hlt : max (mny (l.map SusA.x) k) (l.length - mny (l.map SusA.x) k) < (nextTo (l.map SusA.x) k).2 := (by omega)
                refine GE_slots (L' := [(11, _), (12, _), (17, _), (18, _), (47, _), (48, _), (49, _)]) ⟨rfl, rfl, rfl, rfl, rfl, rfl, rfl, trivial⟩ ?_
                refine GE_plain (.st 0 (.st 1 (.st 2 (.st 3 .nil)))) rfl ?_
                refine GT_st rfl rfl rfl rfl (V_move rfl rfl) ?_
                refine GT_st rfl rfl rfl rfl (V_move rfl rfl) ?_
                refine GT_st rfl rfl rfl rfl (V_assign rfl rfl) ?_
                refine GT_st rfl rfl rfl rfl (V_assign rfl rfl) ?_
                refine GT_nil ?_
                refine GE_inBlock ?_
                refine GE_slots (L' := [(11, _), (12, _), (15, _), (16, _), (47, _), (48, _), (49, _)]) ⟨rfl, rfl, rfl, rfl, rfl, rfl, rfl, trivial⟩ ?_
                refine GE_plain (.st 0 (.ld 1 [] .nil)) rfl ?_
                refine GT_st rfl rfl rfl rfl (V_add rfl rfl rfl (wrap_i64 (by omega))) ?_
                refine GT_ldv rfl rfl rfl rfl rfl (V_move rfl rfl) (GR_nil) ?_
                refine GT_nil ?_
                first
                  | exact GE_to (ih (k + 1) (by omega) (by omega)) ⟨rfl, rfl, lookI rfl (by rw [hst, if_pos hlt]), lookI rfl (by rw [hst, if_pos hlt]; exact hmx), rfl, rfl, rfl, trivial⟩ (HS.cons rfl (HS.chunk HS.last))
                  | exact GE_to (ih (k + 1) (by omega) (by omega)) ⟨rfl, rfl, lookI rfl (by rw [hst, if_neg hlt]), lookI rfl (by rw [hst, if_neg hlt]), rfl, rfl, rfl, trivial⟩ (HS.cons rfl (HS.chunk HS.last))
              · have hlt : ¬ max (mny (l.map SusA.x) k) (l.length - mny (l.map SusA.x) k) < (nextTo (l.map SusA.x) k).2 := (by omega)
                refine GE_skip ?_
                refine GE_inBlock ?_
                refine GE_slots (L' := [(11, _), (12, _), (15, _), (16, _), (47, _), (48, _), (49, _)]) ⟨rfl, rfl, rfl, rfl, rfl, rfl, rfl, trivial⟩ ?_
                refine GE_plain (.st 0 (.ld 1 [] .nil)) rfl ?_
                refine GT_st rfl rfl rfl rfl (V_add rfl rfl rfl (wrap_i64 (by omega))) ?_
                refine GT_ldv rfl rfl rfl rfl rfl (V_move rfl rfl) (GR_nil) ?_
                refine GT_nil ?_
                first
                  | exact GE_to (ih (k + 1) (by omega) (by omega)) ⟨rfl, rfl, lookI rfl (by rw [hst, if_pos hlt]), lookI rfl (by rw [hst, if_pos hlt]; exact hmx), rfl, rfl, rfl, trivial⟩ (HS.cons rfl (HS.chunk HS.last))
                  | exact GE_to (ih (k + 1) (by omega) (by omega)) ⟨rfl, rfl, lookI rfl (by rw [hst, if_neg hlt]), lookI rfl (by rw [hst, if_neg hlt]), rfl, rfl, rfl, trivial⟩ (HS.cons rfl (HS.chunk HS.last))
            · obtain rfl : k = d.length := (by omega); have hE3 : nextE p d side h = ((d.getD (nextTo (l.map SusA.x) d.length).1 default).ser, ((nextTo (l.map SusA.x) d.length).2 : Int), 0) := (by rw [hE2]; unfold nextR; rw [hs]; rfl); have hlt := (nextTo_spec (l.map SusA.x) d.length).2.2 (same_false (fun x hx => by obtain ⟨y, hy, rfl⟩ := List.mem_map.1 hx; exact (hL.n y hy).2) hs)
              refine GE_exit rfl ?_
              refine GE_seq ?_
              refine GE_slots (L' := [(11, _), (15, _), (16, _)]) ⟨rfl, rfl, rfl, trivial⟩ ?_
              refine GE_plain (.st 0 (.st 1 (.st 2 (.st 3 (.st 4 (.st 5 (.st 6 (.st 7 (.st 8 (.st 9 (.st 10 .nil))))))))))) rfl ?_
              refine GT_st rfl rfl rfl rfl (V_move rfl rfl) ?_
              first | refine GT_st rfl rfl rfl rfl (V_nilCheck rfl rfl) ?_ | refine GT_st rfl rfl rfl rfl (V_nilCheck_func rfl rfl) ?_ | refine GT_st rfl rfl rfl rfl (V_nilCheck_yield rfl rfl) ?_
              first | refine GT_st rfl rfl rfl rfl (V_field rfl rfl fo_101_1) ?_ | refine GT_st rfl rfl rfl rfl (V_fieldA rfl rfl fo_101_1) ?_
              refine GT_st rfl rfl rfl rfl (V_load rfl rfl ag_42 (CellAt.item rfl)) ?_
              refine GT_st rfl rfl rfl rfl (V_move rfl rfl) ?_
              refine GT_st rfl rfl rfl rfl (V_index rfl rfl rfl Try.underlying42 sz_2 (k := (nextTo (l.map SusA.x) d.length).1) rfl hlt.1 (hO3.isSome (k := (nextTo (l.map SusA.x) d.length).1) (by rw [serS_len]; exact hlt.1))) ?_
              refine GT_st rfl rfl rfl rfl (V_load rfl rfl ag_2 (CellAt.own0 hO3 eI_len (by rw [serS_len]; exact hlt.1) (by rw [serS_get hlt.1]; rfl))) ?_
              refine GT_st rfl rfl rfl rfl (V_move rfl rfl) ?_
              refine GT_st rfl rfl rfl rfl (V_assign rfl rfl) ?_
              refine GT_st rfl rfl rfl rfl (V_assign rfl rfl) ?_
              refine GT_st rfl rfl rfl rfl (V_assign rfl rfl) ?_
              refine GT_nil ?_
              refine GE_ret Try.func27 ⟨_, _, _, rfl, rfl, rfl, rfl⟩ (fun w hw => ⟨?_, hw.nil⟩)
              rw [hE3]
          · exact Nat.zero_le _
  · have hE : nextE p d side h = _ := if_neg he
    refine Ret_of (vs := [_, _, _, _]) hm none' Try.func27 rfl Try.ntmps27 rfl ?_
    dsimp only [slotsOf]
    refine GE_seq ?_
    refine GE_plain (.st 0 (.st 1 (.st 2 .nil))) rfl ?_
    refine GT_st rfl rfl rfl rfl (V_assign rfl rfl) ?_
    refine GT_st rfl rfl rfl rfl (V_assign rfl rfl) ?_
    refine GT_st rfl rfl rfl rfl (V_assign rfl rfl) ?_
    refine GT_nil ?_
    refine GE_seq ?_
    refine GE_plain (.st 0 (.st 1 (.st 2 (.st 3 (.ld 4 [] (.st 5 (.st 6 (.st 7 (.st 8 (.st 9 (.st 10 (.st 11 .nil)))))))))))) rfl ?_
    refine GT_st rfl rfl rfl rfl (V_move rfl rfl) ?_
    refine GT_st rfl rfl rfl rfl (V_move rfl rfl) ?_
    refine GT_st rfl rfl rfl rfl (V_move rfl rfl) ?_
    refine GT_st rfl rfl rfl rfl (V_move rfl rfl) ?_
    refine GT_call0 rfl rfl rfl rfl rfl rfl rfl rfl rn_46 (fun w hw => C_left_err (hp.sh hw) hwf (hd.sh hw) hdf (hh.sh hw) he) (GR_nil) ?_
    refine GT_st rfl rfl rfl rfl (V_move rfl rfl) ?_
    refine GT_st rfl rfl rfl rfl (V_extract rfl rfl rfl) ?_
    refine GT_st rfl rfl rfl rfl (V_extract rfl rfl rfl) ?_
    refine GT_st rfl rfl rfl rfl (V_extract rfl rfl rfl) ?_
    refine GT_st rfl rfl rfl rfl (V_assign rfl rfl) ?_
    refine GT_st rfl rfl rfl rfl (V_assign rfl rfl) ?_
    refine GT_st rfl rfl rfl rfl (V_assign rfl rfl) ?_
    refine GT_nil ?_
    refine GE_seq ?_
    refine GE_seq ?_
    refine GE_slots (L' := [(11, _), (12, _), (13, _)]) ⟨rfl, rfl, rfl, trivial⟩ ?_
    refine GE_plain (.st 0 (.st 1 .nil)) rfl ?_
    refine GT_st rfl rfl rfl rfl (V_move rfl rfl) ?_
    refine GT_st rfl rfl rfl rfl (V_neq rfl rfl rfl) ?_
    refine GT_nil ?_
    first | refine GE_condNot rfl (fun h1 => ?_) (fun h1 => ?_) | refine GE_cond rfl (fun h1 => ?_) (fun h1 => ?_) | refine GE_condNotB rfl (fun h1 => ?_) (fun h1 => ?_) | refine GE_condB rfl (fun h1 => ?_) (fun h1 => ?_)
    · skip
      refine GE_seq ?_
      refine GE_slots (L' := [(13, _)]) ⟨rfl, trivial⟩ ?_
      refine GE_plain (.st 0 (.st 1 (.st 2 (.st 3 .nil)))) rfl ?_
      refine GT_st rfl rfl rfl rfl (V_move rfl rfl) ?_
      refine GT_st rfl rfl rfl rfl (V_assign rfl rfl) ?_
      refine GT_st rfl rfl rfl rfl (V_assign rfl rfl) ?_
      refine GT_st rfl rfl rfl rfl (V_assign rfl rfl) ?_
      refine GT_nil ?_
      refine GE_ret Try.func27 ⟨_, _, _, rfl, rfl, rfl, rfl⟩ (fun w hw => ⟨?_, hw.nil⟩)
      rw [hE]; rfl
    · exact absurd h1 he
end
end Go.Proofs.Ytfaggcmcfhljpaa
