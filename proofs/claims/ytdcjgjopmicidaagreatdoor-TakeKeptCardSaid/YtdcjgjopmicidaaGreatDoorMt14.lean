/- Texts of this proof, one behind the other: Ta7, TdA. -/
import Derived.Test.YtdcjgjopmicidaaGreatDoorMt13
import Derived.Test.YtdcjgjopmicidaaGreatDoorMt8
/- What the laws over takes use: equal lists, greatness, the example; walked. -/
namespace Go.Proofs.YtdcjgjopmicidaaGreatDoor
open Go.Sx Go.Proofs Go.RowKit

theorem Sam.of_ints {a b : Sam} (h : [a.l, a.r] = [b.l, b.r]) : a = b := by
  obtain ⟨a1, a2⟩ := a; obtain ⟨b1, b2⟩ := b
  simp only [List.cons.injEq, and_true] at h
  obtain ⟨rfl, rfl⟩ := h; rfl
theorem Prt.of_ints {a b : Prt} (h : [a.tk, a.fr, a.to, a.gap, a.inn, a.out, a.lev] = [b.tk, b.fr, b.to, b.gap, b.inn, b.out, b.lev]) : a = b := by
  obtain ⟨a1, a2, a3, a4, a5, a6, a7⟩ := a; obtain ⟨b1, b2, b3, b4, b5, b6, b7⟩ := b
  simp only [List.cons.injEq, and_true] at h
  obtain ⟨rfl, rfl, rfl, rfl, rfl, rfl, rfl⟩ := h; rfl
theorem list_of {α : Type} [Inhabited α] {a b : List α} (hn : a.length = b.length) (h : ∀ i, i < a.length → a.getD i default = b.getD i default) : a = b := by
  apply List.ext_getElem hn
  intro i h1 h2
  have := h i h1
  simpa [List.getD, h1, h2] using this
def bigT (t : Tk) : Bool := decide (100 < t.name.size ∨ 300 < t.data.length ∧ t.data.length ≤ 4096 ∨ 4100 < t.data.length)
def greatB (l : List Tk) (n : Nat) : Bool := decide (20 < l.length ∨ 8 < n ∧ n ≤ 32 ∨ 40 < n) || l.any bigT
theorem greatB_no {l : List Tk} {n : Nat} (h : greatB l n = false) : l.length ≤ 20 ∧ (n ≤ 8 ∨ 32 < n) ∧ n ≤ 40 ∧ ∀ t ∈ l, t.name.size ≤ 100 ∧ (t.data.length ≤ 300 ∨ 4096 < t.data.length) ∧ t.data.length ≤ 4100 := by
  unfold greatB at h
  rw [Bool.or_eq_false_iff, decide_eq_false_iff_not] at h
  refine ⟨by omega, by omega, by omega, fun t ht => ?_⟩
  have := h.2
  rw [List.any_eq_false] at this
  have := this t ht
  unfold bigT at this
  rw [decide_eq_true_iff] at this
  omega
theorem any_of {α : Type} [Inhabited α] {l : List α} {f : α → Bool} {k : Nat} (hk : k < l.length) (h : f (l.getD k default) = true) : l.any f = true := by
  rw [List.any_eq_true]; exact ⟨_, getD_mem hk, h⟩
def exD1 : List Sam := [⟨100, -100⟩, ⟨200, -200⟩, ⟨300, -300⟩, ⟨400, -400⟩]
def exD2 : List Sam := [⟨1000, 0⟩, ⟨1000, 0⟩]
def exL (a b : Nat) : List Tk := [⟨⟨#[97]⟩, some ⟨a, 0, none⟩, 4, exD1⟩, ⟨⟨#[98]⟩, some ⟨b, 0, none⟩, 2, exD2⟩]
def exP : List Prt := [⟨0, 0, 4, 2, 0, 0, 1000⟩, ⟨1, 0, 2, -1, 0, 0, 1000⟩]
def exR : List Sam := [⟨0, 0⟩, ⟨0, 0⟩, ⟨100, -100⟩, ⟨200, -200⟩, ⟨300, -300⟩, ⟨1400, -400⟩, ⟨1000, 0⟩]
theorem ex_err (a b : Nat) : rErr (exL a b) exP = 0 := by kernel_rfl
theorem ex_rend (a b : Nat) : rendL (exL a b) exP = exR := by kernel_rfl
theorem ex_ierr : iErr exR 100 2 = 0 := by kernel_rfl
theorem ex_sil : silL exR 100 2 = [(0, 3)] := by kernel_rfl
section
variable {w : World} {A B : Option Addr} {c c2 : Nat}
theorem C_Same {a b : List Sam} (hn : a.length ≤ 1000000000000) (ha : RdL w 2 eSam A a) (hb : RdL w 2 eSam B b) : Con0 Tryz.prog 38 [.slice A a.length c, .slice B b.length c2] w (.bool (decide (a = b))) := by
  refine Ret_of (vs := [_, _]) hm none' Tryz.func38 rfl Tryz.ntmps38 rfl ?_
  dsimp only [slotsOf]
  refine GE_seq ?_
  refine GE_plain (.st 0 .nil) rfl ?_
  refine GT_st rfl rfl rfl rfl (V_assign rfl rfl) ?_
  refine GT_nil ?_
  refine GE_seq ?_
  refine GE_seq ?_
  refine GE_plain (.st 0 (.st 1 (.st 2 (.st 3 (.st 4 .nil))))) rfl ?_
  refine GT_st rfl rfl rfl rfl (V_move rfl rfl) ?_
  refine GT_st rfl rfl rfl rfl (V_len rfl Tryz.underlying37 rfl) ?_
  refine GT_st rfl rfl rfl rfl (V_move rfl rfl) ?_
  refine GT_st rfl rfl rfl rfl (V_len rfl Tryz.underlying37 rfl) ?_
  refine GT_st rfl rfl rfl rfl (V_neq rfl rfl rfl) ?_
  refine GT_nil ?_
  first | refine GE_condNot rfl (fun h1 => ?_) (fun h1 => ?_) | refine GE_cond rfl (fun h1 => ?_) (fun h1 => ?_) | refine GE_condNotB rfl (fun h1 => ?_) (fun h1 => ?_) | refine GE_condB rfl (fun h1 => ?_) (fun h1 => ?_)
  · skip
    refine GE_seq ?_
    refine GE_slots (L' := []) trivial ?_
    refine GE_plain (.st 0 .nil) rfl ?_
    refine GT_st rfl rfl rfl rfl (V_assign rfl rfl) ?_
    refine GT_nil ?_
    refine GE_ret Tryz.func38 rfl (fun w hw => ⟨?_, hw.nil⟩)
    rw [decide_eq_false (fun e => h1 (by rw [e]))]
  · have hln : a.length = b.length := (by omega)
    refine GE_skip ?_
    refine GE_seq ?_
    refine GE_seq ?_
    refine GE_slots (L' := [(0, _), (1, _)]) ⟨rfl, rfl, trivial⟩ ?_
    refine GE_plain (.st 0 .nil) rfl ?_
    refine GT_st rfl rfl rfl rfl (V_assign rfl rfl) ?_
    refine GT_nil ?_
    refine GE_block ?_
    refine GE_to (GE_loop (ι := Nat) (fun k => a.length - k) (fun k => [(0, .slice A a.length c), (1, .slice B b.length c2), (5, I k)]) (fun k => []) (fun k => k ≤ a.length ∧ ∀ i, i < k → a.getD i default = b.getD i default) ?_ 0 ?_) ⟨rfl, rfl, rfl, trivial⟩ HS.nil
    · rintro k ⟨hk, hall⟩ ih
      refine GE_seq ?_
      refine GE_seq ?_
      refine GE_plain (.st 0 (.st 1 (.st 2 (.st 3 .nil)))) rfl ?_
      refine GT_st rfl rfl rfl rfl (V_move rfl rfl) ?_
      refine GT_st rfl rfl rfl rfl (V_move rfl rfl) ?_
      refine GT_st rfl rfl rfl rfl (V_len rfl Tryz.underlying37 rfl) ?_
      refine GT_st rfl rfl rfl rfl (V_lss rfl rfl rfl) ?_
      refine GT_nil ?_
      first | refine GE_condNot rfl (fun h2 => ?_) (fun h2 => ?_) | refine GE_cond rfl (fun h2 => ?_) (fun h2 => ?_) | refine GE_condNotB rfl (fun h2 => ?_) (fun h2 => ?_) | refine GE_condB rfl (fun h2 => ?_) (fun h2 => ?_)
      · have hka : k < a.length := (by omega); have hkb : k < b.length := (by omega)
        refine GE_skip ?_
        refine GE_seq ?_
        refine GE_block ?_
        refine GE_seq ?_
        refine GE_slots (L' := [(0, _), (1, _), (5, _)]) ⟨rfl, rfl, rfl, trivial⟩ ?_
        refine GE_drawn (.st 0 (.st 1 (.st 2 (.st 3 (.st 4 (.st 5 (.st 6 (.st 7 (.st 8 .nil))))))))) [] (by decide +kernel) ?_
        refine GT_st rfl rfl rfl rfl (V_move rfl rfl) ?_
        refine GT_st rfl rfl rfl rfl (V_move rfl rfl) ?_
        refine GT_st rfl rfl rfl rfl (V_index rfl rfl rfl Tryz.underlying37 sz_52 (k := k) rfl hka (ha.isSome hka)) ?_
        refine GT_st rfl rfl rfl rfl (V_loadN (vs := [_, _]) rfl rfl ag_52 sz_52 rfl (ha.ats noM hka)) ?_
        refine GT_st rfl rfl rfl rfl (V_move rfl rfl) ?_
        refine GT_st rfl rfl rfl rfl (V_move rfl rfl) ?_
        refine GT_st rfl rfl rfl rfl (V_index rfl rfl rfl Tryz.underlying37 sz_52 (k := k) rfl hkb (hb.isSome hkb)) ?_
        refine GT_st rfl rfl rfl rfl (V_loadN (vs := [_, _]) rfl rfl ag_52 sz_52 rfl (hb.ats noM hkb)) ?_
        refine GT_st rfl rfl rfl rfl (V_neqInts (zs := [_, _]) (zs' := [_, _]) rfl rfl rfl is_52 rfl rfl) ?_
        refine GT_nil ?_
        first | refine GE_condNot rfl (fun h3 => ?_) (fun h3 => ?_) | refine GE_cond rfl (fun h3 => ?_) (fun h3 => ?_) | refine GE_condNotB rfl (fun h3 => ?_) (fun h3 => ?_) | refine GE_condB rfl (fun h3 => ?_) (fun h3 => ?_)
        · skip
          refine GE_seq ?_
          refine GE_slots (L' := []) trivial ?_
          refine GE_plain (.st 0 .nil) rfl ?_
          refine GT_st rfl rfl rfl rfl (V_assign rfl rfl) ?_
          refine GT_nil ?_
          refine GE_ret Tryz.func38 rfl (fun w hw => ⟨?_, hw.nil⟩)
          rw [decide_eq_false (fun e => h3 (by rw [e]))]
        · skip
          refine GE_skip ?_
          refine GE_inBlock ?_
          refine GE_slots (L' := [(0, _), (1, _), (5, _)]) ⟨rfl, rfl, rfl, trivial⟩ ?_
          refine GE_plain (.st 0 (.st 1 (.ld 2 [] .nil))) rfl ?_
          refine GT_st rfl rfl rfl rfl (V_move rfl rfl) ?_
          refine GT_st rfl rfl rfl rfl (V_add rfl rfl rfl (wrap_i64 (by omega))) ?_
          refine GT_ldv rfl rfl rfl rfl rfl (V_assign rfl rfl) (GR_nil) ?_
          refine GT_nil ?_
          exact GE_to (ih (k + 1) ⟨by omega, fun i hi => by rcases Nat.lt_or_ge i k with r | r; exact hall i r; rw [show i = k by omega]; exact Sam.of_ints h3⟩ (by omega)) ⟨rfl, rfl, rfl, trivial⟩ HS.nil
      · skip
        refine GE_exit rfl ?_
        refine GE_seq ?_
        refine GE_slots (L' := []) trivial ?_
        refine GE_plain (.st 0 .nil) rfl ?_
        refine GT_st rfl rfl rfl rfl (V_assign rfl rfl) ?_
        refine GT_nil ?_
        refine GE_ret Tryz.func38 rfl (fun w hw => ⟨?_, hw.nil⟩)
        rw [decide_eq_true (list_of hln fun i hi => hall i (by omega))]
    · exact ⟨Nat.zero_le _, fun i hi => absurd hi (Nat.not_lt_zero _)⟩
theorem C_parts {a b : List Prt} (hn : a.length ≤ 1000000000000) (ha : RdL w 7 ePrt A a) (hb : RdL w 7 ePrt B b) : Con0 Tryz.prog 11 [.slice A a.length c, .slice B b.length c2] w (.bool (decide (a = b))) := by
  refine Ret_of (vs := [_, _]) hm none' Tryz.func11 rfl Tryz.ntmps11 rfl ?_
  dsimp only [slotsOf]
  refine GE_seq ?_
  refine GE_plain (.st 0 .nil) rfl ?_
  refine GT_st rfl rfl rfl rfl (V_assign rfl rfl) ?_
  refine GT_nil ?_
  refine GE_seq ?_
  refine GE_seq ?_
  refine GE_plain (.st 0 (.st 1 (.st 2 (.st 3 (.st 4 .nil))))) rfl ?_
  refine GT_st rfl rfl rfl rfl (V_move rfl rfl) ?_
  refine GT_st rfl rfl rfl rfl (V_len rfl Tryz.underlying23 rfl) ?_
  refine GT_st rfl rfl rfl rfl (V_move rfl rfl) ?_
  refine GT_st rfl rfl rfl rfl (V_len rfl Tryz.underlying23 rfl) ?_
  refine GT_st rfl rfl rfl rfl (V_neq rfl rfl rfl) ?_
  refine GT_nil ?_
  first | refine GE_condNot rfl (fun h1 => ?_) (fun h1 => ?_) | refine GE_cond rfl (fun h1 => ?_) (fun h1 => ?_) | refine GE_condNotB rfl (fun h1 => ?_) (fun h1 => ?_) | refine GE_condB rfl (fun h1 => ?_) (fun h1 => ?_)
  · skip
    refine GE_seq ?_
    refine GE_slots (L' := []) trivial ?_
    refine GE_plain (.st 0 .nil) rfl ?_
    refine GT_st rfl rfl rfl rfl (V_assign rfl rfl) ?_
    refine GT_nil ?_
    refine GE_ret Tryz.func11 rfl (fun w hw => ⟨?_, hw.nil⟩)
    rw [decide_eq_false (fun e => h1 (by rw [e]))]
  · have hln : a.length = b.length := (by omega)
    refine GE_skip ?_
    refine GE_seq ?_
    refine GE_seq ?_
    refine GE_slots (L' := [(0, _), (1, _)]) ⟨rfl, rfl, trivial⟩ ?_
    refine GE_plain (.st 0 .nil) rfl ?_
    refine GT_st rfl rfl rfl rfl (V_assign rfl rfl) ?_
    refine GT_nil ?_
    refine GE_block ?_
    refine GE_to (GE_loop (ι := Nat) (fun k => a.length - k) (fun k => [(0, .slice A a.length c), (1, .slice B b.length c2), (5, I k)]) (fun k => []) (fun k => k ≤ a.length ∧ ∀ i, i < k → a.getD i default = b.getD i default) ?_ 0 ?_) ⟨rfl, rfl, rfl, trivial⟩ HS.nil
    · rintro k ⟨hk, hall⟩ ih
      refine GE_seq ?_
      refine GE_seq ?_
      refine GE_plain (.st 0 (.st 1 (.st 2 (.st 3 .nil)))) rfl ?_
      refine GT_st rfl rfl rfl rfl (V_move rfl rfl) ?_
      refine GT_st rfl rfl rfl rfl (V_move rfl rfl) ?_
      refine GT_st rfl rfl rfl rfl (V_len rfl Tryz.underlying23 rfl) ?_
      refine GT_st rfl rfl rfl rfl (V_lss rfl rfl rfl) ?_
      refine GT_nil ?_
      first | refine GE_condNot rfl (fun h2 => ?_) (fun h2 => ?_) | refine GE_cond rfl (fun h2 => ?_) (fun h2 => ?_) | refine GE_condNotB rfl (fun h2 => ?_) (fun h2 => ?_) | refine GE_condB rfl (fun h2 => ?_) (fun h2 => ?_)
      · have hka : k < a.length := (by omega); have hkb : k < b.length := (by omega)
        refine GE_skip ?_
        refine GE_seq ?_
        refine GE_block ?_
        refine GE_seq ?_
        refine GE_slots (L' := [(0, _), (1, _), (5, _)]) ⟨rfl, rfl, rfl, trivial⟩ ?_
        refine GE_drawn (.st 0 (.st 1 (.st 2 (.st 3 (.st 4 (.st 5 (.st 6 (.st 7 (.st 8 .nil))))))))) [] (by decide +kernel) ?_
        refine GT_st rfl rfl rfl rfl (V_move rfl rfl) ?_
        refine GT_st rfl rfl rfl rfl (V_move rfl rfl) ?_
        refine GT_st rfl rfl rfl rfl (V_index rfl rfl rfl Tryz.underlying23 sz_59 (k := k) rfl hka (ha.isSome hka)) ?_
        refine GT_st rfl rfl rfl rfl (V_loadN (vs := [_, _, _, _, _, _, _]) rfl rfl ag_59 sz_59 rfl (show CellsAt _ _ _ (ePrt (a.getD k default)) from ha.ats noM hka)) ?_
        refine GT_st rfl rfl rfl rfl (V_move rfl rfl) ?_
        refine GT_st rfl rfl rfl rfl (V_move rfl rfl) ?_
        refine GT_st rfl rfl rfl rfl (V_index rfl rfl rfl Tryz.underlying23 sz_59 (k := k) rfl hkb (hb.isSome hkb)) ?_
        refine GT_st rfl rfl rfl rfl (V_loadN (vs := [_, _, _, _, _, _, _]) rfl rfl ag_59 sz_59 rfl (show CellsAt _ _ _ (ePrt (b.getD k default)) from hb.ats noM hkb)) ?_
        refine GT_st rfl rfl rfl rfl (V_neqInts (zs := [_, _, _, _, _, _, _]) (zs' := [_, _, _, _, _, _, _]) rfl rfl rfl is_59 rfl rfl) ?_
        refine GT_nil ?_
        first | refine GE_condNot rfl (fun h3 => ?_) (fun h3 => ?_) | refine GE_cond rfl (fun h3 => ?_) (fun h3 => ?_) | refine GE_condNotB rfl (fun h3 => ?_) (fun h3 => ?_) | refine GE_condB rfl (fun h3 => ?_) (fun h3 => ?_)
        · skip
          refine GE_seq ?_
          refine GE_slots (L' := []) trivial ?_
          refine GE_plain (.st 0 .nil) rfl ?_
          refine GT_st rfl rfl rfl rfl (V_assign rfl rfl) ?_
          refine GT_nil ?_
          refine GE_ret Tryz.func11 rfl (fun w hw => ⟨?_, hw.nil⟩)
          rw [decide_eq_false (fun e => h3 (by rw [e]))]
        · skip
          refine GE_skip ?_
          refine GE_inBlock ?_
          refine GE_slots (L' := [(0, _), (1, _), (5, _)]) ⟨rfl, rfl, rfl, trivial⟩ ?_
          refine GE_plain (.st 0 (.st 1 (.ld 2 [] .nil))) rfl ?_
          refine GT_st rfl rfl rfl rfl (V_move rfl rfl) ?_
          refine GT_st rfl rfl rfl rfl (V_add rfl rfl rfl (wrap_i64 (by omega))) ?_
          refine GT_ldv rfl rfl rfl rfl rfl (V_assign rfl rfl) (GR_nil) ?_
          refine GT_nil ?_
          exact GE_to (ih (k + 1) ⟨by omega, fun i hi => by rcases Nat.lt_or_ge i k with r | r; exact hall i r; rw [show i = k by omega]; exact Prt.of_ints h3⟩ (by omega)) ⟨rfl, rfl, rfl, trivial⟩ HS.nil
      · skip
        refine GE_exit rfl ?_
        refine GE_seq ?_
        refine GE_slots (L' := []) trivial ?_
        refine GE_plain (.st 0 .nil) rfl ?_
        refine GT_st rfl rfl rfl rfl (V_assign rfl rfl) ?_
        refine GT_nil ?_
        refine GE_ret Tryz.func11 rfl (fun w hw => ⟨?_, hw.nil⟩)
        rw [decide_eq_true (list_of hln fun i hi => hall i (by omega))]
    · exact ⟨Nat.zero_le _, fun i hi => absurd hi (Nat.not_lt_zero _)⟩
theorem C_great {l : List Tk} {n : Nat} (h : Tks w A l) : Con0 Tryz.prog 5 [.slice A l.length c, .slice B n c2] w (.bool (greatB l n)) := by
  refine Ret_of (vs := [_, _]) hm none' Tryz.func5 rfl Tryz.ntmps5 rfl ?_
  dsimp only [slotsOf]
  refine GE_seq ?_
  refine GE_plain (.st 0 .nil) rfl ?_
  refine GT_st rfl rfl rfl rfl (V_assign rfl rfl) ?_
  refine GT_nil ?_
  refine GE_cut (ι := Unit) (fun _ => [(0, .slice A l.length c)]) (fun _ => []) (fun _ => l.length ≤ 20 ∧ ¬(8 < n ∧ n ≤ 32) ∧ n ≤ 40) ?_ (fun hk => ?_)
  · rintro _ hg
    refine GE_seq ?_
    refine GE_seq ?_
    refine GE_plain (.st 0 .nil) rfl ?_
    refine GT_st rfl rfl rfl rfl (V_assign rfl rfl) ?_
    refine GT_nil ?_
    refine GE_block ?_
    refine GE_to (GE_loop (ι := Nat) (fun k => l.length - k) (fun k => [(0, .slice A l.length c), (5, I k)]) (fun k => []) (fun k => k ≤ l.length ∧ ∀ i, i < k → bigT (l.getD i default) = false) ?_ 0 ?_) ⟨rfl, rfl, trivial⟩ HS.nil
    · rintro k ⟨hk, hall⟩ ih
      refine GE_seq ?_
      refine GE_seq ?_
      refine GE_plain (.st 0 (.st 1 (.st 2 (.st 3 .nil)))) rfl ?_
      refine GT_st rfl rfl rfl rfl (V_move rfl rfl) ?_
      refine GT_st rfl rfl rfl rfl (V_move rfl rfl) ?_
      refine GT_st rfl rfl rfl rfl (V_len rfl Tryz.underlying22 rfl) ?_
      refine GT_st rfl rfl rfl rfl (V_lss rfl rfl rfl) ?_
      refine GT_nil ?_
      first | refine GE_condNot rfl (fun h2 => ?_) (fun h2 => ?_) | refine GE_cond rfl (fun h2 => ?_) (fun h2 => ?_) | refine GE_condNotB rfl (fun h2 => ?_) (fun h2 => ?_) | refine GE_condB rfl (fun h2 => ?_) (fun h2 => ?_)
      · have hkl : k < l.length := (by omega)
        refine GE_skip ?_
        refine GE_seq ?_
        refine GE_block ?_
        refine GE_seq ?_
        refine GE_slots (L' := [(0, _), (5, _)]) ⟨rfl, rfl, trivial⟩ ?_
        refine GE_plain (.st 0 (.st 1 (.st 2 (.st 3 (.st 4 (.st 5 (.st 6 (.st 7 (.st 8 (.st 9 (.st 10 (.st 11 (.st 12 (.st 13 (.st 14 (.st 15 (.st 16 (.st 17 (.st 18 (.st 19 (.st 20 (.st 21 (.st 22 (.st 23 (.st 24 (.st 25 (.st 26 (.st 27 (.st 28 (.st 29 (.st 30 (.st 31 (.st 32 (.st 33 .nil)))))))))))))))))))))))))))))))))) rfl ?_
        refine GT_st rfl rfl rfl rfl (V_move rfl rfl) ?_
        refine GT_st rfl rfl rfl rfl (V_move rfl rfl) ?_
        refine GT_st rfl rfl rfl rfl (V_index rfl rfl rfl Tryz.underlying22 sz_39 (k := k) rfl hkl (h.1.isSome hkl)) ?_
        first | refine GT_st rfl rfl rfl rfl (V_field rfl rfl fo_39_0) ?_ | refine GT_st rfl rfl rfl rfl (V_fieldA rfl rfl fo_39_0) ?_
        refine GT_st rfl rfl rfl rfl (V_load rfl rfl ag_9 (h.1.at0 noM hkl rfl)) ?_
        refine GT_st rfl rfl rfl rfl (V_len_str rfl Tryz.underlying9 rfl) ?_
        refine GT_st rfl rfl rfl rfl (V_gtr rfl rfl rfl) ?_
        refine GT_st rfl rfl rfl rfl (V_move rfl rfl) ?_
        first | refine GT_splitNot (d := 37) rfl (fun h1 => ?_) (fun h1 => ?_) | refine GT_split (d := 37) rfl (fun h1 => ?_) (fun h1 => ?_) | refine GT_splitNotB (d := 37) rfl (fun h1 => ?_) (fun h1 => ?_) | refine GT_splitB (d := 37) rfl (fun h1 => ?_) (fun h1 => ?_)
        · skip
          refine GT_skip rfl rfl rfl rfl rfl (by decide) rfl rfl ?_
          refine GT_skip rfl rfl rfl rfl rfl (by decide) rfl rfl ?_
          refine GT_skip rfl rfl rfl rfl rfl (by decide) rfl rfl ?_
          refine GT_skip rfl rfl rfl rfl rfl (by decide) rfl rfl ?_
          refine GT_skip rfl rfl rfl rfl rfl (by decide) rfl rfl ?_
          refine GT_skip rfl rfl rfl rfl rfl (by decide) rfl rfl ?_
          refine GT_skip rfl rfl rfl rfl rfl (by decide) rfl rfl ?_
          refine GT_skip rfl rfl rfl rfl rfl (by decide) rfl rfl ?_
          refine GT_skip rfl rfl rfl rfl rfl (by decide) rfl rfl ?_
          refine GT_skip rfl rfl rfl rfl rfl (by decide) rfl rfl ?_
          refine GT_skip rfl rfl rfl rfl rfl (by decide) rfl rfl ?_
          refine GT_skip rfl rfl rfl rfl rfl (by decide) rfl rfl ?_
          refine GT_skip rfl rfl rfl rfl rfl (by decide) rfl rfl ?_
          refine GT_skip rfl rfl rfl rfl rfl (by decide) rfl rfl ?_
          refine GT_skip rfl rfl rfl rfl rfl (by decide) rfl rfl ?_
          refine GT_skip rfl rfl rfl rfl rfl (by decide) rfl rfl ?_
          refine GT_st rfl rfl rfl rfl (V_pick_t rfl rfl rfl) ?_
          refine GT_st rfl rfl rfl rfl (V_move rfl rfl) ?_
          refine GT_skip rfl rfl rfl rfl rfl (by decide) rfl rfl ?_
          refine GT_skip rfl rfl rfl rfl rfl (by decide) rfl rfl ?_
          refine GT_skip rfl rfl rfl rfl rfl (by decide) rfl rfl ?_
          refine GT_skip rfl rfl rfl rfl rfl (by decide) rfl rfl ?_
          refine GT_skip rfl rfl rfl rfl rfl (by decide) rfl rfl ?_
          refine GT_skip rfl rfl rfl rfl rfl (by decide) rfl rfl ?_
          refine GT_skip rfl rfl rfl rfl rfl (by decide) rfl rfl ?_
          refine GT_st rfl rfl rfl rfl (V_pick_t rfl rfl rfl) ?_
          refine GT_nil ?_
          refine GE_cond_t rfl ?_
          refine GE_seq ?_
          refine GE_slots (L' := []) trivial ?_
          refine GE_plain (.st 0 .nil) rfl ?_
          refine GT_st rfl rfl rfl rfl (V_assign rfl rfl) ?_
          refine GT_nil ?_
          refine GE_ret Tryz.func5 rfl (fun w hw => ⟨?_, hw.nil⟩)
          refine congrArg Value.bool ?_; first | (rw [greatB, decide_eq_true (by omega), Bool.true_or]; done) | (rw [greatB, any_of hkl (decide_eq_true (by omega)), Bool.or_true])
        · skip
          refine GT_st_g rfl rfl rfl rfl rfl rfl rfl (V_move rfl rfl) ?_
          refine GT_st_g rfl rfl rfl rfl rfl rfl rfl (V_move rfl rfl) ?_
          refine GT_st_g rfl rfl rfl rfl rfl rfl rfl (V_index rfl rfl rfl Tryz.underlying22 sz_39 (k := k) rfl hkl (h.1.isSome hkl)) ?_
          first | refine GT_st_g rfl rfl rfl rfl rfl rfl rfl (V_field rfl rfl fo_39_1) ?_ | refine GT_st_g rfl rfl rfl rfl rfl rfl rfl (V_fieldA rfl rfl fo_39_1) ?_
          refine GT_st_g rfl rfl rfl rfl rfl rfl rfl (V_load rfl rfl ag_37 (h.1.at1 noM hkl rfl)) ?_
          refine GT_st_g rfl rfl rfl rfl rfl rfl rfl (V_len rfl Tryz.underlying37 rfl) ?_
          refine GT_st_g rfl rfl rfl rfl rfl rfl rfl (V_gtr rfl rfl rfl) ?_
          refine GT_st_g rfl rfl rfl rfl rfl rfl rfl (V_move rfl rfl) ?_
          first | refine GT_splitNot (d := 45) rfl (fun h2 => ?_) (fun h2 => ?_) | refine GT_split (d := 45) rfl (fun h2 => ?_) (fun h2 => ?_) | refine GT_splitNotB (d := 45) rfl (fun h2 => ?_) (fun h2 => ?_) | refine GT_splitB (d := 45) rfl (fun h2 => ?_) (fun h2 => ?_)
          · skip
            refine GT_st_g rfl rfl rfl rfl rfl rfl rfl (V_move rfl rfl) ?_
            refine GT_st_g rfl rfl rfl rfl rfl rfl rfl (V_move rfl rfl) ?_
            refine GT_st_g rfl rfl rfl rfl rfl rfl rfl (V_index rfl rfl rfl Tryz.underlying22 sz_39 (k := k) rfl hkl (h.1.isSome hkl)) ?_
            first | refine GT_st_g rfl rfl rfl rfl rfl rfl rfl (V_field rfl rfl fo_39_1) ?_ | refine GT_st_g rfl rfl rfl rfl rfl rfl rfl (V_fieldA rfl rfl fo_39_1) ?_
            refine GT_st_g rfl rfl rfl rfl rfl rfl rfl (V_load rfl rfl ag_37 (h.1.at1 noM hkl rfl)) ?_
            refine GT_st_g rfl rfl rfl rfl rfl rfl rfl (V_len rfl Tryz.underlying37 rfl) ?_
            refine GT_st_g rfl rfl rfl rfl rfl rfl rfl (V_leq rfl rfl rfl) ?_
            refine GT_st_g rfl rfl rfl rfl rfl rfl rfl (V_pick_t rfl rfl rfl) ?_
            refine GT_st rfl rfl rfl rfl (V_pick_f rfl rfl rfl) ?_
            refine GT_st rfl rfl rfl rfl (V_move rfl rfl) ?_
            first | refine GT_splitNot (d := 55) rfl (fun h3 => ?_) (fun h3 => ?_) | refine GT_split (d := 55) rfl (fun h3 => ?_) (fun h3 => ?_) | refine GT_splitNotB (d := 55) rfl (fun h3 => ?_) (fun h3 => ?_) | refine GT_splitB (d := 55) rfl (fun h3 => ?_) (fun h3 => ?_)
            · skip
              refine GT_skip rfl rfl rfl rfl rfl (by decide) rfl rfl ?_
              refine GT_skip rfl rfl rfl rfl rfl (by decide) rfl rfl ?_
              refine GT_skip rfl rfl rfl rfl rfl (by decide) rfl rfl ?_
              refine GT_skip rfl rfl rfl rfl rfl (by decide) rfl rfl ?_
              refine GT_skip rfl rfl rfl rfl rfl (by decide) rfl rfl ?_
              refine GT_skip rfl rfl rfl rfl rfl (by decide) rfl rfl ?_
              refine GT_skip rfl rfl rfl rfl rfl (by decide) rfl rfl ?_
              refine GT_st rfl rfl rfl rfl (V_pick_t rfl rfl rfl) ?_
              refine GT_nil ?_
              refine GE_cond_t rfl ?_
              refine GE_seq ?_
              refine GE_slots (L' := []) trivial ?_
              refine GE_plain (.st 0 .nil) rfl ?_
              refine GT_st rfl rfl rfl rfl (V_assign rfl rfl) ?_
              refine GT_nil ?_
              refine GE_ret Tryz.func5 rfl (fun w hw => ⟨?_, hw.nil⟩)
              refine congrArg Value.bool ?_; first | (rw [greatB, decide_eq_true (by omega), Bool.true_or]; done) | (rw [greatB, any_of hkl (decide_eq_true (by omega)), Bool.or_true])
            · skip
              refine GT_st_g rfl rfl rfl rfl rfl rfl rfl (V_move rfl rfl) ?_
              refine GT_st_g rfl rfl rfl rfl rfl rfl rfl (V_move rfl rfl) ?_
              refine GT_st_g rfl rfl rfl rfl rfl rfl rfl (V_index rfl rfl rfl Tryz.underlying22 sz_39 (k := k) rfl hkl (h.1.isSome hkl)) ?_
              first | refine GT_st_g rfl rfl rfl rfl rfl rfl rfl (V_field rfl rfl fo_39_1) ?_ | refine GT_st_g rfl rfl rfl rfl rfl rfl rfl (V_fieldA rfl rfl fo_39_1) ?_
              refine GT_st_g rfl rfl rfl rfl rfl rfl rfl (V_load rfl rfl ag_37 (h.1.at1 noM hkl rfl)) ?_
              refine GT_st_g rfl rfl rfl rfl rfl rfl rfl (V_len rfl Tryz.underlying37 rfl) ?_
              refine GT_st_g rfl rfl rfl rfl rfl rfl rfl (V_gtr rfl rfl rfl) ?_
              refine GT_st rfl rfl rfl rfl (V_pick_f rfl rfl rfl) ?_
              refine GT_nil ?_
              first | refine GE_condNot rfl (fun h3 => ?_) (fun h3 => ?_) | refine GE_cond rfl (fun h3 => ?_) (fun h3 => ?_) | refine GE_condNotB rfl (fun h3 => ?_) (fun h3 => ?_) | refine GE_condB rfl (fun h3 => ?_) (fun h3 => ?_)
              · skip
                refine GE_seq ?_
                refine GE_slots (L' := []) trivial ?_
                refine GE_plain (.st 0 .nil) rfl ?_
                refine GT_st rfl rfl rfl rfl (V_assign rfl rfl) ?_
                refine GT_nil ?_
                refine GE_ret Tryz.func5 rfl (fun w hw => ⟨?_, hw.nil⟩)
                rw [greatB, any_of hkl (decide_eq_true (by omega)), Bool.or_true]
              · skip
                refine GE_skip ?_
                refine GE_inBlock ?_
                refine GE_slots (L' := [(0, _), (5, _), (38, _), (39, _), (40, _), (41, _), (42, _), (43, _), (44, _), (45, _), (46, _), (47, _), (48, _), (49, _), (50, _), (51, _), (52, _), (53, _), (56, _), (57, _), (58, _), (59, _), (60, _), (61, _), (62, _)]) ⟨rfl, rfl, rfl, rfl, rfl, rfl, rfl, rfl, rfl, rfl, rfl, rfl, rfl, rfl, rfl, rfl, rfl, rfl, rfl, rfl, rfl, rfl, rfl, rfl, rfl, trivial⟩ ?_
                refine GE_plain (.st 0 (.st 1 (.ld 2 [] .nil))) rfl ?_
                refine GT_st rfl rfl rfl rfl (V_move rfl rfl) ?_
                refine GT_st rfl rfl rfl rfl (V_add rfl rfl rfl (wrap_i64 (by omega))) ?_
                refine GT_ldv rfl rfl rfl rfl rfl (V_assign rfl rfl) (GR_nil) ?_
                refine GT_nil ?_
                exact GE_to (ih (k + 1) ⟨by omega, fun i hi => by rcases Nat.lt_or_ge i k with r | r; exact hall i r; rw [show i = k by omega]; exact decide_eq_false (by omega)⟩ (by omega)) ⟨rfl, rfl, trivial⟩ HS.nil
          · skip
            refine GT_skip rfl rfl rfl rfl rfl (by decide) rfl rfl ?_
            refine GT_skip rfl rfl rfl rfl rfl (by decide) rfl rfl ?_
            refine GT_skip rfl rfl rfl rfl rfl (by decide) rfl rfl ?_
            refine GT_skip rfl rfl rfl rfl rfl (by decide) rfl rfl ?_
            refine GT_skip rfl rfl rfl rfl rfl (by decide) rfl rfl ?_
            refine GT_skip rfl rfl rfl rfl rfl (by decide) rfl rfl ?_
            refine GT_skip rfl rfl rfl rfl rfl (by decide) rfl rfl ?_
            refine GT_st_g rfl rfl rfl rfl rfl rfl rfl (V_pick_f rfl rfl rfl) ?_
            refine GT_st rfl rfl rfl rfl (V_pick_f rfl rfl rfl) ?_
            refine GT_st rfl rfl rfl rfl (V_move rfl rfl) ?_
            refine GT_st_g rfl rfl rfl rfl rfl rfl rfl (V_move rfl rfl) ?_
            refine GT_st_g rfl rfl rfl rfl rfl rfl rfl (V_move rfl rfl) ?_
            refine GT_st_g rfl rfl rfl rfl rfl rfl rfl (V_index rfl rfl rfl Tryz.underlying22 sz_39 (k := k) rfl hkl (h.1.isSome hkl)) ?_
            first | refine GT_st_g rfl rfl rfl rfl rfl rfl rfl (V_field rfl rfl fo_39_1) ?_ | refine GT_st_g rfl rfl rfl rfl rfl rfl rfl (V_fieldA rfl rfl fo_39_1) ?_
            refine GT_st_g rfl rfl rfl rfl rfl rfl rfl (V_load rfl rfl ag_37 (h.1.at1 noM hkl rfl)) ?_
            refine GT_st_g rfl rfl rfl rfl rfl rfl rfl (V_len rfl Tryz.underlying37 rfl) ?_
            refine GT_st_g rfl rfl rfl rfl rfl rfl rfl (V_gtr rfl rfl rfl) ?_
            refine GT_st rfl rfl rfl rfl (V_pick_f rfl rfl rfl) ?_
            refine GT_nil ?_
            first | refine GE_condNot rfl (fun h3 => ?_) (fun h3 => ?_) | refine GE_cond rfl (fun h3 => ?_) (fun h3 => ?_) | refine GE_condNotB rfl (fun h3 => ?_) (fun h3 => ?_) | refine GE_condB rfl (fun h3 => ?_) (fun h3 => ?_)
            · skip
              refine GE_seq ?_
              refine GE_slots (L' := []) trivial ?_
              refine GE_plain (.st 0 .nil) rfl ?_
              refine GT_st rfl rfl rfl rfl (V_assign rfl rfl) ?_
              refine GT_nil ?_
              refine GE_ret Tryz.func5 rfl (fun w hw => ⟨?_, hw.nil⟩)
              rw [greatB, any_of hkl (decide_eq_true (by omega)), Bool.or_true]
            · skip
              refine GE_skip ?_
              refine GE_inBlock ?_
              refine GE_slots (L' := [(0, _), (5, _), (38, _), (39, _), (40, _), (41, _), (42, _), (43, _), (44, _), (45, _), (46, _), (47, _), (48, _), (49, _), (50, _), (51, _), (52, _), (53, _), (56, _), (57, _), (58, _), (59, _), (60, _), (61, _), (62, _)]) ⟨rfl, rfl, rfl, rfl, rfl, rfl, rfl, rfl, rfl, rfl, rfl, rfl, rfl, rfl, rfl, rfl, rfl, rfl, rfl, rfl, rfl, rfl, rfl, rfl, rfl, trivial⟩ ?_
              refine GE_plain (.st 0 (.st 1 (.ld 2 [] .nil))) rfl ?_
              refine GT_st rfl rfl rfl rfl (V_move rfl rfl) ?_
              refine GT_st rfl rfl rfl rfl (V_add rfl rfl rfl (wrap_i64 (by omega))) ?_
              refine GT_ldv rfl rfl rfl rfl rfl (V_assign rfl rfl) (GR_nil) ?_
              refine GT_nil ?_
              exact GE_to (ih (k + 1) ⟨by omega, fun i hi => by rcases Nat.lt_or_ge i k with r | r; exact hall i r; rw [show i = k by omega]; exact decide_eq_false (by omega)⟩ (by omega)) ⟨rfl, rfl, trivial⟩ HS.nil
      · skip
        refine GE_exit rfl ?_
        refine GE_seq ?_
        refine GE_slots (L' := []) trivial ?_
        refine GE_plain (.st 0 .nil) rfl ?_
        refine GT_st rfl rfl rfl rfl (V_assign rfl rfl) ?_
        refine GT_nil ?_
        refine GE_ret Tryz.func5 rfl (fun w hw => ⟨?_, hw.nil⟩)
        rw [greatB, decide_eq_false (by omega), Bool.false_or]; refine congrArg Value.bool (Eq.symm (List.any_eq_false.2 fun x hx => ?_)); obtain ⟨i, hi, rfl⟩ := List.getElem_of_mem hx; have := hall i (by omega); simp [List.getD, hi] at this; simp [this]
    · exact ⟨Nat.zero_le _, fun i hi => absurd hi (Nat.not_lt_zero _)⟩
  · skip
    refine GE_seq ?_
    refine GE_plain (.st 0 (.st 1 (.st 2 (.st 3 (.st 4 (.st 5 (.st 6 (.st 7 (.st 8 (.st 9 (.st 10 (.st 11 (.st 12 (.st 13 (.st 14 (.st 15 (.st 16 (.st 17 .nil)))))))))))))))))) rfl ?_
    refine GT_st rfl rfl rfl rfl (V_move rfl rfl) ?_
    refine GT_st rfl rfl rfl rfl (V_len rfl Tryz.underlying22 rfl) ?_
    refine GT_st rfl rfl rfl rfl (V_gtr rfl rfl rfl) ?_
    refine GT_st rfl rfl rfl rfl (V_move rfl rfl) ?_
    first | refine GT_splitNot (d := 9) rfl (fun h1 => ?_) (fun h1 => ?_) | refine GT_split (d := 9) rfl (fun h1 => ?_) (fun h1 => ?_) | refine GT_splitNotB (d := 9) rfl (fun h1 => ?_) (fun h1 => ?_) | refine GT_splitB (d := 9) rfl (fun h1 => ?_) (fun h1 => ?_)
    · skip
      refine GT_skip rfl rfl rfl rfl rfl (by decide) rfl rfl ?_
      refine GT_skip rfl rfl rfl rfl rfl (by decide) rfl rfl ?_
      refine GT_skip rfl rfl rfl rfl rfl (by decide) rfl rfl ?_
      refine GT_skip rfl rfl rfl rfl rfl (by decide) rfl rfl ?_
      refine GT_skip rfl rfl rfl rfl rfl (by decide) rfl rfl ?_
      refine GT_skip rfl rfl rfl rfl rfl (by decide) rfl rfl ?_
      refine GT_skip rfl rfl rfl rfl rfl (by decide) rfl rfl ?_
      refine GT_skip rfl rfl rfl rfl rfl (by decide) rfl rfl ?_
      refine GT_st rfl rfl rfl rfl (V_pick_t rfl rfl rfl) ?_
      refine GT_st rfl rfl rfl rfl (V_move rfl rfl) ?_
      refine GT_skip rfl rfl rfl rfl rfl (by decide) rfl rfl ?_
      refine GT_skip rfl rfl rfl rfl rfl (by decide) rfl rfl ?_
      refine GT_skip rfl rfl rfl rfl rfl (by decide) rfl rfl ?_
      refine GT_st rfl rfl rfl rfl (V_pick_t rfl rfl rfl) ?_
      refine GT_nil ?_
      refine GE_cond_t rfl ?_
      refine GE_seq ?_
      refine GE_slots (L' := []) trivial ?_
      refine GE_plain (.st 0 .nil) rfl ?_
      refine GT_st rfl rfl rfl rfl (V_assign rfl rfl) ?_
      refine GT_nil ?_
      refine GE_ret Tryz.func5 rfl (fun w hw => ⟨?_, hw.nil⟩)
      refine congrArg Value.bool ?_; first | (rw [greatB, decide_eq_true (by omega), Bool.true_or]; done) | (rw [greatB, any_of hkl (decide_eq_true (by omega)), Bool.or_true])
    · skip
      refine GT_st_g rfl rfl rfl rfl rfl rfl rfl (V_move rfl rfl) ?_
      refine GT_st_g rfl rfl rfl rfl rfl rfl rfl (V_len rfl Tryz.underlying23 rfl) ?_
      refine GT_st_g rfl rfl rfl rfl rfl rfl rfl (V_gtr rfl rfl rfl) ?_
      refine GT_st_g rfl rfl rfl rfl rfl rfl rfl (V_move rfl rfl) ?_
      first | refine GT_splitNot (d := 13) rfl (fun h2 => ?_) (fun h2 => ?_) | refine GT_split (d := 13) rfl (fun h2 => ?_) (fun h2 => ?_) | refine GT_splitNotB (d := 13) rfl (fun h2 => ?_) (fun h2 => ?_) | refine GT_splitB (d := 13) rfl (fun h2 => ?_) (fun h2 => ?_)
      · skip
        refine GT_st_g rfl rfl rfl rfl rfl rfl rfl (V_move rfl rfl) ?_
        refine GT_st_g rfl rfl rfl rfl rfl rfl rfl (V_len rfl Tryz.underlying23 rfl) ?_
        refine GT_st_g rfl rfl rfl rfl rfl rfl rfl (V_leq rfl rfl rfl) ?_
        refine GT_st_g rfl rfl rfl rfl rfl rfl rfl (V_pick_t rfl rfl rfl) ?_
        refine GT_st rfl rfl rfl rfl (V_pick_f rfl rfl rfl) ?_
        refine GT_st rfl rfl rfl rfl (V_move rfl rfl) ?_
        first | refine GT_splitNot (d := 19) rfl (fun h3 => ?_) (fun h3 => ?_) | refine GT_split (d := 19) rfl (fun h3 => ?_) (fun h3 => ?_) | refine GT_splitNotB (d := 19) rfl (fun h3 => ?_) (fun h3 => ?_) | refine GT_splitB (d := 19) rfl (fun h3 => ?_) (fun h3 => ?_)
        · skip
          refine GT_skip rfl rfl rfl rfl rfl (by decide) rfl rfl ?_
          refine GT_skip rfl rfl rfl rfl rfl (by decide) rfl rfl ?_
          refine GT_skip rfl rfl rfl rfl rfl (by decide) rfl rfl ?_
          refine GT_st rfl rfl rfl rfl (V_pick_t rfl rfl rfl) ?_
          refine GT_nil ?_
          refine GE_cond_t rfl ?_
          refine GE_seq ?_
          refine GE_slots (L' := []) trivial ?_
          refine GE_plain (.st 0 .nil) rfl ?_
          refine GT_st rfl rfl rfl rfl (V_assign rfl rfl) ?_
          refine GT_nil ?_
          refine GE_ret Tryz.func5 rfl (fun w hw => ⟨?_, hw.nil⟩)
          refine congrArg Value.bool ?_; first | (rw [greatB, decide_eq_true (by omega), Bool.true_or]; done) | (rw [greatB, any_of hkl (decide_eq_true (by omega)), Bool.or_true])
        · skip
          refine GT_st_g rfl rfl rfl rfl rfl rfl rfl (V_move rfl rfl) ?_
          refine GT_st_g rfl rfl rfl rfl rfl rfl rfl (V_len rfl Tryz.underlying23 rfl) ?_
          refine GT_st_g rfl rfl rfl rfl rfl rfl rfl (V_gtr rfl rfl rfl) ?_
          refine GT_st rfl rfl rfl rfl (V_pick_f rfl rfl rfl) ?_
          refine GT_nil ?_
          first | refine GE_condNot rfl (fun h1 => ?_) (fun h1 => ?_) | refine GE_cond rfl (fun h1 => ?_) (fun h1 => ?_) | refine GE_condNotB rfl (fun h1 => ?_) (fun h1 => ?_) | refine GE_condB rfl (fun h1 => ?_) (fun h1 => ?_)
          · skip
            refine GE_seq ?_
            refine GE_slots (L' := []) trivial ?_
            refine GE_plain (.st 0 .nil) rfl ?_
            refine GT_st rfl rfl rfl rfl (V_assign rfl rfl) ?_
            refine GT_nil ?_
            refine GE_ret Tryz.func5 rfl (fun w hw => ⟨?_, hw.nil⟩)
            rw [greatB, decide_eq_true (by omega), Bool.true_or]
          · skip
            refine GE_skip ?_
            exact GE_to (hk () ⟨by omega, by omega, by omega⟩) ⟨rfl, trivial⟩ HS.nil
      · skip
        refine GT_skip rfl rfl rfl rfl rfl (by decide) rfl rfl ?_
        refine GT_skip rfl rfl rfl rfl rfl (by decide) rfl rfl ?_
        refine GT_skip rfl rfl rfl rfl rfl (by decide) rfl rfl ?_
        refine GT_st_g rfl rfl rfl rfl rfl rfl rfl (V_pick_f rfl rfl rfl) ?_
        refine GT_st rfl rfl rfl rfl (V_pick_f rfl rfl rfl) ?_
        refine GT_st rfl rfl rfl rfl (V_move rfl rfl) ?_
        refine GT_st_g rfl rfl rfl rfl rfl rfl rfl (V_move rfl rfl) ?_
        refine GT_st_g rfl rfl rfl rfl rfl rfl rfl (V_len rfl Tryz.underlying23 rfl) ?_
        refine GT_st_g rfl rfl rfl rfl rfl rfl rfl (V_gtr rfl rfl rfl) ?_
        refine GT_st rfl rfl rfl rfl (V_pick_f rfl rfl rfl) ?_
        refine GT_nil ?_
        first | refine GE_condNot rfl (fun h1 => ?_) (fun h1 => ?_) | refine GE_cond rfl (fun h1 => ?_) (fun h1 => ?_) | refine GE_condNotB rfl (fun h1 => ?_) (fun h1 => ?_) | refine GE_condB rfl (fun h1 => ?_) (fun h1 => ?_)
        · skip
          refine GE_seq ?_
          refine GE_slots (L' := []) trivial ?_
          refine GE_plain (.st 0 .nil) rfl ?_
          refine GT_st rfl rfl rfl rfl (V_assign rfl rfl) ?_
          refine GT_nil ?_
          refine GE_ret Tryz.func5 rfl (fun w hw => ⟨?_, hw.nil⟩)
          rw [greatB, decide_eq_true (by omega), Bool.true_or]
        · skip
          refine GE_skip ?_
          exact GE_to (hk () ⟨by omega, by omega, by omega⟩) ⟨rfl, trivial⟩ HS.nil
theorem C_Example : Con Tryz.prog 15 [] w (fun _ : Nat × Nat × Nat × Nat => True) (fun y => .tuple #[.slice (some ⟨y.1, 0, none⟩) 2 2, .slice (some ⟨y.2.1, 0, none⟩) 2 2])
    (fun y => [(y.1, blk ((exL y.2.2.1 y.2.2.2).flatMap eTk) 39), (y.2.1, blk (exP.flatMap ePrt) 59), (y.2.2.1, blk (exD1.flatMap eSam) 52), (y.2.2.2, blk (exD2.flatMap eSam) 52)]) := by
  refine Ret_of (vs := []) hm none' Tryz.func15 rfl Tryz.ntmps15 rfl ?_
  dsimp only [slotsOf]
  refine GE_seq ?_
  refine GE_plain (.st 0 (.st 1 .nil)) rfl ?_
  refine GT_st rfl rfl rfl rfl (V_assign rfl rfl) ?_
  refine GT_st rfl rfl rfl rfl (V_assign rfl rfl) ?_
  refine GT_nil ?_
  refine GE_seq ?_
  refine GE_plain (.st 0 (.st 1 (.st 2 (.st 3 (.ld 4 [] (.st 5 (.ld 6 [] (.ld 7 [] .nil)))))))) rfl ?_
  refine GT_st rfl rfl rfl rfl (V_build (vs := [_, _]) rfl rfl zc_52 pl_52 sa_52 rfl) ?_
  refine GT_st rfl rfl rfl rfl (V_build (vs := [_, _]) rfl rfl zc_52 pl_52 sa_52 rfl) ?_
  refine GT_st rfl rfl rfl rfl (V_build (vs := [_, _]) rfl rfl zc_52 pl_52 sa_52 rfl) ?_
  refine GT_st rfl rfl rfl rfl (V_build (vs := [_, _]) rfl rfl zc_52 pl_52 sa_52 rfl) ?_
  refine GT_buildSlice (z := [_, _, _, _, _, _, _, _]) rfl rfl rfl rfl rfl Tryz.underlying37 zc_52 sz_52 (by decide) rfl rfl (fun _ => GR_nil) (fun b8 => ?_)
  refine GT_st rfl rfl rfl rfl (V_build (vs := [_, _]) rfl rfl zc_39 pl_39 sa_39 rfl) ?_
  refine GT_alloc rfl rfl rfl rfl rfl zc_39 (fun _ => GR_nil) (fun b2 => ?_)
  refine GT_store (vs := [_, _]) (l' := [_, _]) rfl rfl rfl rfl rfl rfl rfl sz_39 rfl rfl (Nat.le_of_ble_eq_true rfl) rfl (GR_nil) ?_
  refine GT_nil ?_
  refine GE_seq ?_
  refine GE_slots (L' := [(2, _)]) ⟨rfl, trivial⟩ ?_
  refine GE_plain (.st 0 (.st 1 (.ld 2 [] (.st 3 (.ld 4 [] (.ld 5 [] .nil)))))) rfl ?_
  refine GT_st rfl rfl rfl rfl (V_build (vs := [_, _]) rfl rfl zc_52 pl_52 sa_52 rfl) ?_
  refine GT_st rfl rfl rfl rfl (V_build (vs := [_, _]) rfl rfl zc_52 pl_52 sa_52 rfl) ?_
  refine GT_buildSlice (z := [_, _, _, _]) rfl rfl rfl rfl rfl Tryz.underlying37 zc_52 sz_52 (by decide) rfl rfl (fun _ => GR_nil) (fun b12 => ?_)
  refine GT_st rfl rfl rfl rfl (V_build (vs := [_, _]) rfl rfl zc_39 pl_39 sa_39 rfl) ?_
  refine GT_alloc rfl rfl rfl rfl rfl zc_39 (fun _ => GR_nil) (fun b3 => ?_)
  refine GT_store (vs := [_, _]) (l' := [_, _]) rfl rfl rfl rfl rfl rfl rfl sz_39 rfl rfl (Nat.le_of_ble_eq_true rfl) rfl (GR_nil) ?_
  refine GT_nil ?_
  refine GE_seq ?_
  refine GE_slots (L' := [(2, _), (3, _)]) ⟨rfl, rfl, trivial⟩ ?_
  refine GE_plain (.st 0 (.st 1 (.ld 2 [] (.st 3 (.st 4 (.ld 5 [] (.st 6 (.st 7 .nil)))))))) rfl ?_
  refine GT_st rfl rfl rfl rfl (V_loadN (vs := [_, _]) rfl rfl ag_39 sz_39 rfl (CellsAt.item rfl)) ?_
  refine GT_st rfl rfl rfl rfl (V_loadN (vs := [_, _]) rfl rfl ag_39 sz_39 rfl (CellsAt.item rfl)) ?_
  refine GT_buildSlice (z := [_, _, _, _]) rfl rfl rfl rfl rfl Tryz.underlying22 zc_39 sz_39 (by decide) rfl rfl (fun _ => GR_nil) (fun b16 => ?_)
  refine GT_st rfl rfl rfl rfl (V_build (vs := [_, _, _, _, _, _, _]) rfl rfl zc_59 pl_59 sa_59 rfl) ?_
  refine GT_st rfl rfl rfl rfl (V_build (vs := [_, _, _, _, _, _, _]) rfl rfl zc_59 pl_59 sa_59 rfl) ?_
  refine GT_buildSlice (z := [_, _, _, _, _, _, _, _, _, _, _, _, _, _]) rfl rfl rfl rfl rfl Tryz.underlying23 zc_59 sz_59 (by decide) rfl rfl (fun _ => GR_nil) (fun b19 => ?_)
  refine GT_st rfl rfl rfl rfl (V_assign rfl rfl) ?_
  refine GT_st rfl rfl rfl rfl (V_assign rfl rfl) ?_
  refine GT_nil ?_
  refine GE_ret Tryz.func15 ⟨_, _, rfl, rfl, rfl⟩ (fun w hw => ?_)
  exact ⟨(b16, b19, b8, b12), trivial, rfl, hw.hs (C := cx Tryz.prog hm 0 0 _ none' fun _ _ => True) (HS.cons rfl (HS.cons rfl (HS.cons rfl (HS.cons rfl HS.nil))))⟩
theorem ex_tks {w0 : World} {M : Nat → Prop} {H : Items} {y1 y3 y4 : Nat} (m : SH w0 M H w) [HFind y1 H (blk ((exL y3 y4).flatMap eTk) 39)] [HFind y3 H (blk (exD1.flatMap eSam) 52)] [HFind y4 H (blk (exD2.flatMap eSam) 52)] : Tks w (some ⟨y1, 0, none⟩) (exL y3 y4) := by
  refine ⟨RdL.own' m eTk_len, fun t ht => ?_⟩
  simp only [exL, List.mem_cons, List.not_mem_nil, or_false] at ht
  rcases ht with rfl | rfl
  · refine ⟨RdL.own' m eSam_len, show 1 ≤ maxLen by decide, show 4 ≤ 4 by decide, fun s hs => ?_⟩
    simp only [exD1, List.mem_cons, List.not_mem_nil, or_false] at hs
    rcases hs with rfl | rfl | rfl | rfl <;> exact ⟨by unfold I64; decide, by unfold I64; decide⟩
  · refine ⟨RdL.own' m eSam_len, show 1 ≤ maxLen by decide, show 2 ≤ 2 by decide, fun s hs => ?_⟩
    simp only [exD2, List.mem_cons, List.not_mem_nil, or_false] at hs
    rcases hs with rfl | rfl <;> exact ⟨by unfold I64; decide, by unfold I64; decide⟩
theorem C_RenderEx {a b : Nat} (h : Tks w A (exL a b)) (hp : RdL w 7 ePrt B exP) : Con Tryz.prog 16 [.slice A 2 c, .slice B 2 c2] w (fun y : Option Addr × Nat × Items => Own 2 52 eSam exR (.slice y.1 exR.length y.2.1) y.2.2)
    (fun y => .tuple #[.slice y.1 exR.length y.2.1, I 0]) (fun y => y.2.2) := by
  have h1 := C_Render (c := c) (c2 := c2) h hp
  rw [ex_err, ex_rend] at h1
  exact h1
theorem C_SilEx (h : RdL w 2 eSam A exR) : Con Tryz.prog 17 [.slice A exR.length c, I 100, I 2] w (fun y : Option Addr × Nat × Items => Own 2 53 eIv [(0, 3)] (.slice y.1 1 y.2.1) y.2.2)
    (fun y => .tuple #[.slice y.1 1 y.2.1, I 0]) (fun y => y.2.2) := by
  have h1 := C_Silences (c := c) (a := 100) (least := 2) h
  rw [ex_ierr, ex_sil] at h1
  exact h1
set_option maxRecDepth 10000 in
theorem C_Works : Con0 Tryz.prog 6 [] w (.bool true) := by
  refine Ret_of (vs := []) hm none' Tryz.func6 rfl Tryz.ntmps6 rfl ?_
  dsimp only [slotsOf]
  refine GE_seq ?_
  refine GE_plain (.st 0 .nil) rfl ?_
  refine GT_st rfl rfl rfl rfl (V_assign rfl rfl) ?_
  refine GT_nil ?_
  refine GE_seq ?_
  refine GE_plain (.ld 0 [] (.st 1 (.st 2 (.st 3 (.st 4 (.st 5 .nil)))))) rfl ?_
  refine GT_call rfl rfl rfl rfl rfl rfl rfl rfl rn_15 (fun w hw => C_Example) (fun _ _ => GR_nil) (fun y hy => ?_)
  refine GT_st rfl rfl rfl rfl (V_move rfl rfl) ?_
  refine GT_st rfl rfl rfl rfl (V_extract rfl rfl rfl) ?_
  refine GT_st rfl rfl rfl rfl (V_extract rfl rfl rfl) ?_
  refine GT_st rfl rfl rfl rfl (V_assign rfl rfl) ?_
  refine GT_st rfl rfl rfl rfl (V_assign rfl rfl) ?_
  refine GT_nil ?_
  refine GE_seq ?_
  refine GE_slots (L' := [(1, _), (2, _)]) ⟨rfl, rfl, trivial⟩ ?_
  refine GE_plain (.st 0 (.st 1 (.ld 2 [] (.st 3 (.st 4 (.st 5 (.st 6 (.st 7 .nil)))))))) rfl ?_
  refine GT_st rfl rfl rfl rfl (V_move rfl rfl) ?_
  refine GT_st rfl rfl rfl rfl (V_move rfl rfl) ?_
  refine GT_call rfl rfl rfl rfl rfl rfl rfl rfl rn_16 (fun w hw => C_RenderEx (ex_tks hw) (RdL.own' hw ePrt_len)) (fun _ _ => GR_nil) (fun r hr => ?_)
  refine GT_st rfl rfl rfl rfl (V_move rfl rfl) ?_
  refine GT_st rfl rfl rfl rfl (V_extract rfl rfl rfl) ?_
  refine GT_st rfl rfl rfl rfl (V_extract rfl rfl rfl) ?_
  refine GT_st rfl rfl rfl rfl (V_assign rfl rfl) ?_
  refine GT_st rfl rfl rfl rfl (V_assign rfl rfl) ?_
  refine GT_nil ?_
  refine GE_seq ?_
  refine GE_slots (L' := [(3, _), (4, _)]) ⟨rfl, rfl, trivial⟩ ?_
  refine GE_plain (.st 0 (.ld 1 [] (.st 2 (.st 3 (.st 4 (.st 5 (.st 6 .nil))))))) rfl ?_
  refine GT_st rfl rfl rfl rfl (V_move rfl rfl) ?_
  refine GT_call rfl rfl rfl rfl rfl rfl rfl rfl rn_17 (fun w hw => C_SilEx (hr.rdH eSam_len hw)) (fun _ _ => GR_nil) (fun z hz => ?_)
  refine GT_st rfl rfl rfl rfl (V_move rfl rfl) ?_
  refine GT_st rfl rfl rfl rfl (V_extract rfl rfl rfl) ?_
  refine GT_st rfl rfl rfl rfl (V_extract rfl rfl rfl) ?_
  refine GT_st rfl rfl rfl rfl (V_assign rfl rfl) ?_
  refine GT_st rfl rfl rfl rfl (V_assign rfl rfl) ?_
  refine GT_nil ?_
  refine GE_seq ?_
  refine GE_slots (L' := [(3, _), (4, _), (5, _), (6, _)]) ⟨rfl, rfl, rfl, rfl, trivial⟩ ?_
  refine GE_plain (.st 0 (.st 1 (.st 2 (.st 3 (.st 4 (.st 5 (.st 6 (.st 7 (.st 8 (.st 9 (.st 10 (.st 11 (.st 12 (.st 13 (.st 14 (.st 15 (.st 16 (.st 17 (.st 18 (.st 19 (.st 20 (.st 21 (.st 22 (.st 23 (.st 24 (.st 25 (.st 26 (.st 27 (.st 28 .nil))))))))))))))))))))))))))))) rfl ?_
  refine GT_st rfl rfl rfl rfl (V_move rfl rfl) ?_
  refine GT_st rfl rfl rfl rfl (V_move rfl rfl) ?_
  refine GT_st rfl rfl rfl rfl (V_add rfl rfl rfl (wrap_i64 (by omega))) ?_
  refine GT_st rfl rfl rfl rfl (V_isT (V_eql rfl rfl rfl) (by decide)) ?_
  refine GT_st rfl rfl rfl rfl (V_move rfl rfl) ?_
  refine GT_st_g rfl rfl rfl rfl rfl rfl rfl (V_move rfl rfl) ?_
  refine GT_st_g rfl rfl rfl rfl rfl rfl rfl (V_len rfl Tryz.underlying37 rfl) ?_
  refine GT_st_g rfl rfl rfl rfl rfl rfl rfl (V_isT (V_eql rfl rfl rfl) (by decide)) ?_
  refine GT_st rfl rfl rfl rfl (V_pick_t rfl rfl rfl) ?_
  refine GT_st rfl rfl rfl rfl (V_move rfl rfl) ?_
  refine GT_st_g rfl rfl rfl rfl rfl rfl rfl (V_move rfl rfl) ?_
  refine GT_st_g rfl rfl rfl rfl rfl rfl rfl (V_index (k := 5) rfl rfl rfl Tryz.underlying37 sz_52 rfl (by decide) (hr.isSome (k := 5) (by decide))) ?_
  refine GT_st_g rfl rfl rfl rfl rfl rfl rfl (V_loadN (vs := [_, _]) rfl rfl ag_52 sz_52 rfl (CellsAt.ownE hr eSam_len (k := 5) (by decide) rfl)) ?_
  refine GT_st_g rfl rfl rfl rfl rfl rfl rfl (V_build (vs := [_, _]) rfl rfl zc_52 pl_52 sa_52 rfl) ?_
  refine GT_st_g rfl rfl rfl rfl rfl rfl rfl (V_isT (V_eqlInts (zs := [1400, -400]) (zs' := [1400, -400]) rfl rfl rfl is_52 rfl rfl) rfl) ?_
  refine GT_st rfl rfl rfl rfl (V_pick_t rfl rfl rfl) ?_
  refine GT_st rfl rfl rfl rfl (V_move rfl rfl) ?_
  refine GT_st_g rfl rfl rfl rfl rfl rfl rfl (V_move rfl rfl) ?_
  refine GT_st_g rfl rfl rfl rfl rfl rfl rfl (V_len rfl Tryz.underlying48 rfl) ?_
  refine GT_st_g rfl rfl rfl rfl rfl rfl rfl (V_isT (V_eql rfl rfl rfl) (by decide)) ?_
  refine GT_st rfl rfl rfl rfl (V_pick_t rfl rfl rfl) ?_
  refine GT_st rfl rfl rfl rfl (V_move rfl rfl) ?_
  refine GT_st_g rfl rfl rfl rfl rfl rfl rfl (V_move rfl rfl) ?_
  refine GT_st_g rfl rfl rfl rfl rfl rfl rfl (V_index (k := 0) rfl rfl rfl Tryz.underlying48 sz_53 rfl (by decide) (hz.isSome (k := 0) (by decide))) ?_
  refine GT_st_g rfl rfl rfl rfl rfl rfl rfl (V_loadN (vs := [_, _]) rfl rfl ag_53 sz_53 rfl (CellsAt.ownE hz eIv_len (k := 0) (by decide) rfl)) ?_
  refine GT_st_g rfl rfl rfl rfl rfl rfl rfl (V_build (vs := [_, _]) rfl rfl zc_53 pl_53 sa_53 rfl) ?_
  refine GT_st_g rfl rfl rfl rfl rfl rfl rfl (V_eqlArr2 rfl rfl rfl Tryz.underlying53 Tryz.underlying3 sz_3 eg_53) ?_
  refine GT_st rfl rfl rfl rfl (V_pick_t rfl rfl rfl) ?_
  refine GT_st rfl rfl rfl rfl (V_assign rfl rfl) ?_
  refine GT_nil ?_
  refine GE_ret Tryz.func6 rfl (fun w hw => ⟨?_, hw.nil⟩)
  rfl
end
end Go.Proofs.YtdcjgjopmicidaaGreatDoor
/- strings.Builder, walked. -/
namespace Go.Proofs.YtdcjgjopmicidaaGreatDoor
open Go.Sx Go.Proofs Go.RowKit

section
variable {w w0 : World} {b : Nat} {H1 J1 : Items} {v : Value} {p : Bool} {A : Option Addr} {c : Nat} {bs : List UInt8}
/-- a builder's first cell: nil, or its own address -/
abbrev bptr (p : Bool) (b : Nat) : Value := .pointer (if p then some ⟨b, 0, none⟩ else none)
theorem C_copyCheck0 (m : SH w0 none' ((b, blk [.pointer none, v] 57) :: H1) w) :
    Ret Tryz.prog 46 [ptr b 0].toArray w fun r w' => r = .tuple #[] ∧ SH w0 none' ((b, blk [ptr b 0, v] 57) :: H1) w' := by
  refine Ret_ofH (vs := [_]) hm none' Tryz.func46 rfl Tryz.ntmps46 rfl m ?_
  dsimp only [slotsOf]
  refine GE_seq ?_
  refine GE_plain (.st 0 (.st 1 (.st 2 (.st 3 (.st 4 .nil))))) rfl ?_
  refine GT_st rfl rfl rfl rfl (V_move rfl rfl) ?_
  first | refine GT_st rfl rfl rfl rfl (V_nilCheck rfl rfl) ?_ | refine GT_st rfl rfl rfl rfl (V_nilCheck_func rfl rfl) ?_ | refine GT_st rfl rfl rfl rfl (V_nilCheck_yield rfl rfl) ?_
  first | refine GT_st rfl rfl rfl rfl (V_field rfl rfl fo_57_0) ?_ | refine GT_st rfl rfl rfl rfl (V_fieldA rfl rfl fo_57_0) ?_
  refine GT_st rfl rfl rfl rfl (V_load rfl rfl ag_55 (CellAt.item rfl)) ?_
  refine GT_st rfl rfl rfl rfl (V_eqlNilPtr rfl rfl rfl Tryz.underlying55) ?_
  refine GT_nil ?_
  refine GE_cond_t rfl ?_
  refine GE_slots (L' := [(0, _)]) ⟨rfl, trivial⟩ ?_
  refine GE_plain (.st 0 (.st 1 (.st 2 (.ld 3 [] (.st 4 (.st 5 (.st 6 (.ld 7 [] .nil)))))))) rfl ?_
  refine GT_st rfl rfl rfl rfl (V_move rfl rfl) ?_
  refine GT_st rfl rfl rfl rfl (V_move rfl rfl) ?_
  refine GT_st rfl rfl rfl rfl (V_toUnsafe rfl rfl Tryz.underlying55 Tryz.underlying125 sz_57 (by decide) (Nat.le_of_ble_eq_true rfl)) ?_
  refine GT_ldv rfl rfl rfl rfl rfl (V_noEscape rfl rfl rfl Tryz.func64 (by kernel_rfl) (by kernel_rfl) (by kernel_rfl) (by kernel_rfl)) (GR_nil) ?_
  refine GT_st rfl rfl rfl rfl (V_fromUnsafe rfl rfl Tryz.underlying125 Tryz.underlying55 sz_57 (by kernel_rfl)) ?_
  first | refine GT_st rfl rfl rfl rfl (V_nilCheck rfl rfl) ?_ | refine GT_st rfl rfl rfl rfl (V_nilCheck_func rfl rfl) ?_ | refine GT_st rfl rfl rfl rfl (V_nilCheck_yield rfl rfl) ?_
  first | refine GT_st rfl rfl rfl rfl (V_field rfl rfl fo_57_0) ?_ | refine GT_st rfl rfl rfl rfl (V_fieldA rfl rfl fo_57_0) ?_
  refine GT_store (vs := [_]) (l' := [_, _]) rfl rfl rfl rfl rfl rfl rfl sz_55 rfl rfl (Nat.le_of_ble_eq_true rfl) rfl (GR_nil) ?_
  refine GT_nil ?_
  refine GE_end Tryz.func46 rfl (fun w hw => ?_)
  exact ⟨rfl, hw⟩
theorem C_copyCheck1 (m : SH w0 none' ((b, blk [ptr b 0, v] 57) :: H1) w) :
    Ret Tryz.prog 46 [ptr b 0].toArray w fun r w' => r = .tuple #[] ∧ SH w0 none' ((b, blk [ptr b 0, v] 57) :: H1) w' := by
  refine Ret_ofH (vs := [_]) hm none' Tryz.func46 rfl Tryz.ntmps46 rfl m ?_
  dsimp only [slotsOf]
  refine GE_seq ?_
  refine GE_plain (.st 0 (.st 1 (.st 2 (.st 3 (.st 4 .nil))))) rfl ?_
  refine GT_st rfl rfl rfl rfl (V_move rfl rfl) ?_
  first | refine GT_st rfl rfl rfl rfl (V_nilCheck rfl rfl) ?_ | refine GT_st rfl rfl rfl rfl (V_nilCheck_func rfl rfl) ?_ | refine GT_st rfl rfl rfl rfl (V_nilCheck_yield rfl rfl) ?_
  first | refine GT_st rfl rfl rfl rfl (V_field rfl rfl fo_57_0) ?_ | refine GT_st rfl rfl rfl rfl (V_fieldA rfl rfl fo_57_0) ?_
  refine GT_st rfl rfl rfl rfl (V_load rfl rfl ag_55 (CellAt.item rfl)) ?_
  refine GT_st rfl rfl rfl rfl (V_eqlNilPtr rfl rfl rfl Tryz.underlying55) ?_
  refine GT_nil ?_
  refine GE_cond_f rfl ?_
  refine GE_seq ?_
  refine GE_slots (L' := [(0, _)]) ⟨rfl, trivial⟩ ?_
  refine GE_plain (.st 0 (.st 1 (.st 2 (.st 3 (.st 4 (.st 5 .nil)))))) rfl ?_
  refine GT_st rfl rfl rfl rfl (V_move rfl rfl) ?_
  first | refine GT_st rfl rfl rfl rfl (V_nilCheck rfl rfl) ?_ | refine GT_st rfl rfl rfl rfl (V_nilCheck_func rfl rfl) ?_ | refine GT_st rfl rfl rfl rfl (V_nilCheck_yield rfl rfl) ?_
  first | refine GT_st rfl rfl rfl rfl (V_field rfl rfl fo_57_0) ?_ | refine GT_st rfl rfl rfl rfl (V_fieldA rfl rfl fo_57_0) ?_
  refine GT_st rfl rfl rfl rfl (V_load rfl rfl ag_55 (CellAt.item rfl)) ?_
  refine GT_st rfl rfl rfl rfl (V_move rfl rfl) ?_
  refine GT_st rfl rfl rfl rfl (V_neqPtrSame rfl rfl rfl Tryz.underlying55 sz_57) ?_
  refine GT_nil ?_
  refine GE_cond_f rfl ?_
  refine GE_skip ?_
  refine GE_end Tryz.func46 rfl (fun w hw => ?_)
  exact ⟨rfl, hw⟩
theorem C_copyCheck (m : SH w0 none' ((b, blk [bptr p b, v] 57) :: H1) w) :
    Ret Tryz.prog 46 [ptr b 0].toArray w fun r w' => ∃ _ : Unit, True ∧ r = .tuple #[] ∧ SH w0 none' ((b, blk [ptr b 0, v] 57) :: H1) w' := by
  cases p with
  | false => exact (C_copyCheck0 m).mono fun r w' ⟨h1, h2⟩ => ⟨(), trivial, h1, h2⟩
  | true => exact (C_copyCheck1 m).mono fun r w' ⟨h1, h2⟩ => ⟨(), trivial, h1, h2⟩
theorem C_WriteString {s : ByteArray} (m : SH w0 none' ((b, blk [bptr p b, .slice A bs.length c] 57) :: (J1 ++ H1)) w) (hO : Own 1 5 eU bs (.slice A bs.length c) J1) (hn : bs.length + s.size ≤ 1000000000000) :
    Ret Tryz.prog 19 [ptr b 0, .string s].toArray w fun r w' => ∃ y : Option Addr × Nat × Items, Own 1 5 eU (bs ++ byz s) (.slice y.1 (bs ++ byz s).length y.2.1) y.2.2 ∧ r = .tuple #[I s.size, .nilIface] ∧ SH w0 none' ((b, blk [ptr b 0, .slice y.1 (bs ++ byz s).length y.2.1] 57) :: (y.2.2 ++ H1)) w' := by
  refine Ret_ofH (vs := [_, _]) hm none' Tryz.func19 rfl Tryz.ntmps19 rfl m ?_
  dsimp only [slotsOf]
  refine GE_seq ?_
  refine GE_plain (.st 0 (.st 1 .nil)) rfl ?_
  refine GT_st rfl rfl rfl rfl (V_assign rfl rfl) ?_
  refine GT_st rfl rfl rfl rfl (V_assign rfl rfl) ?_
  refine GT_nil ?_
  refine GE_seq ?_
  refine GE_plain (.st 0 (.ld 1 [] .nil)) rfl ?_
  refine GT_st rfl rfl rfl rfl (V_move rfl rfl) ?_
  refine GT_callX rfl rfl rfl rfl rfl rfl rfl rfl rn_46 (fun w m => C_copyCheck m) (fun _ _ => GR_nil) (fun _ _ => ?_)
  refine GT_nil ?_
  refine GE_seq ?_
  refine GE_slots (L' := [(0, _), (1, _)]) ⟨rfl, rfl, trivial⟩ ?_
  refine GE_plain (.st 0 (.st 1 (.st 2 (.st 3 (.st 4 (.st 5 (.ld 6 [] (.st 7 (.st 8 (.ld 9 [] .nil)))))))))) rfl ?_
  refine GT_st rfl rfl rfl rfl (V_move rfl rfl) ?_
  refine GT_st rfl rfl rfl rfl (V_move rfl rfl) ?_
  first | refine GT_st rfl rfl rfl rfl (V_nilCheck rfl rfl) ?_ | refine GT_st rfl rfl rfl rfl (V_nilCheck_func rfl rfl) ?_ | refine GT_st rfl rfl rfl rfl (V_nilCheck_yield rfl rfl) ?_
  first | refine GT_st rfl rfl rfl rfl (V_field rfl rfl fo_57_1) ?_ | refine GT_st rfl rfl rfl rfl (V_fieldA rfl rfl fo_57_1) ?_
  refine GT_st rfl rfl rfl rfl (V_load rfl rfl ag_33 (CellAt.item rfl)) ?_
  refine GT_st rfl rfl rfl rfl (V_move rfl rfl) ?_
  refine GT_appendS (l := bs) rfl rfl rfl rfl rfl rfl rfl hO Tryz.underlying33 Tryz.underlying9 zc_5 sz_5 rfl by_5 (by omega) (fun _ _ _ _ => GR_nil) (fun A2 c2 I2 hO2 => ?_)
  first | refine GT_st rfl rfl rfl rfl (V_nilCheck rfl rfl) ?_ | refine GT_st rfl rfl rfl rfl (V_nilCheck_func rfl rfl) ?_ | refine GT_st rfl rfl rfl rfl (V_nilCheck_yield rfl rfl) ?_
  first | refine GT_st rfl rfl rfl rfl (V_field rfl rfl fo_57_1) ?_ | refine GT_st rfl rfl rfl rfl (V_fieldA rfl rfl fo_57_1) ?_
  refine GT_store (vs := [_]) (l' := [_, _]) rfl rfl rfl rfl rfl rfl rfl sz_33 rfl rfl (Nat.le_of_ble_eq_true rfl) rfl (GR_nil) ?_
  refine GT_nil ?_
  refine GE_seq ?_
  refine GE_slots (L' := [(1, _)]) ⟨rfl, trivial⟩ ?_
  refine GE_plain (.st 0 (.st 1 (.st 2 (.st 3 .nil)))) rfl ?_
  refine GT_st rfl rfl rfl rfl (V_move rfl rfl) ?_
  refine GT_st rfl rfl rfl rfl (V_len_str rfl Tryz.underlying9 rfl) ?_
  refine GT_st rfl rfl rfl rfl (V_assign rfl rfl) ?_
  refine GT_st rfl rfl rfl rfl (V_assign rfl rfl) ?_
  refine GT_nil ?_
  refine GE_ret Tryz.func19 ⟨_, _, rfl, rfl, rfl⟩ (fun w hw => ?_)
  exact ⟨(A2, c2, I2), hO2, rfl, hw.hs (C := cx Tryz.prog hm 0 0 w0 none' fun _ _ => True) (HS.cons rfl (HS.chunk HS.last))⟩
theorem C_WriteByte {x : UInt8} (m : SH w0 none' ((b, blk [bptr p b, .slice A bs.length c] 57) :: (J1 ++ H1)) w) (hO : Own 1 5 eU bs (.slice A bs.length c) J1) (hn : bs.length + 1 ≤ 1000000000000) :
    Ret Tryz.prog 21 [ptr b 0, .int .u8 x.toNat].toArray w fun r w' => ∃ y : Option Addr × Nat × Items, Own 1 5 eU (bs ++ [x]) (.slice y.1 (bs ++ [x]).length y.2.1) y.2.2 ∧ r = .nilIface ∧ SH w0 none' ((b, blk [ptr b 0, .slice y.1 (bs ++ [x]).length y.2.1] 57) :: (y.2.2 ++ H1)) w' := by
  refine Ret_ofH (vs := [_, _]) hm none' Tryz.func21 rfl Tryz.ntmps21 rfl m ?_
  dsimp only [slotsOf]
  refine GE_seq ?_
  refine GE_plain (.st 0 .nil) rfl ?_
  refine GT_st rfl rfl rfl rfl (V_assign rfl rfl) ?_
  refine GT_nil ?_
  refine GE_seq ?_
  refine GE_plain (.st 0 (.ld 1 [] .nil)) rfl ?_
  refine GT_st rfl rfl rfl rfl (V_move rfl rfl) ?_
  refine GT_callX rfl rfl rfl rfl rfl rfl rfl rfl rn_46 (fun w m => C_copyCheck m) (fun _ _ => GR_nil) (fun _ _ => ?_)
  refine GT_nil ?_
  refine GE_seq ?_
  refine GE_plain (.st 0 (.st 1 (.st 2 (.st 3 (.st 4 (.st 5 (.ld 6 [] (.ld 7 [] (.st 8 (.st 9 (.ld 10 [] .nil))))))))))) rfl ?_
  refine GT_st rfl rfl rfl rfl (V_move rfl rfl) ?_
  refine GT_st rfl rfl rfl rfl (V_move rfl rfl) ?_
  first | refine GT_st rfl rfl rfl rfl (V_nilCheck rfl rfl) ?_ | refine GT_st rfl rfl rfl rfl (V_nilCheck_func rfl rfl) ?_ | refine GT_st rfl rfl rfl rfl (V_nilCheck_yield rfl rfl) ?_
  first | refine GT_st rfl rfl rfl rfl (V_field rfl rfl fo_57_1) ?_ | refine GT_st rfl rfl rfl rfl (V_fieldA rfl rfl fo_57_1) ?_
  refine GT_st rfl rfl rfl rfl (V_load rfl rfl ag_33 (CellAt.item rfl)) ?_
  refine GT_st rfl rfl rfl rfl (V_move rfl rfl) ?_
  refine GT_buildSlice (z := [_]) rfl rfl rfl rfl rfl Tryz.underlying33 zc_5 sz_5 (by decide) rfl rfl (fun _ => GR_nil) (fun b13 => ?_)
  refine GT_append (enc := eU) (l := bs) (m := [x]) rfl rfl rfl rfl rfl rfl rfl hO (fun w m => RdL.own' m eU_len) Tryz.underlying33 zc_5 sz_5 ⟨rfl, by decide⟩ by_5 ⟨by simp only [List.length_singleton]; omega, by simp only [List.length_singleton]; omega⟩ eU_len eU_one (fun _ _ _ _ => GR_nil) (fun A2 c2 I2 hO2 => ?_)
  first | refine GT_st rfl rfl rfl rfl (V_nilCheck rfl rfl) ?_ | refine GT_st rfl rfl rfl rfl (V_nilCheck_func rfl rfl) ?_ | refine GT_st rfl rfl rfl rfl (V_nilCheck_yield rfl rfl) ?_
  first | refine GT_st rfl rfl rfl rfl (V_field rfl rfl fo_57_1) ?_ | refine GT_st rfl rfl rfl rfl (V_fieldA rfl rfl fo_57_1) ?_
  refine GT_store (vs := [_]) (l' := [_, _]) rfl rfl rfl rfl rfl rfl rfl sz_33 rfl rfl (Nat.le_of_ble_eq_true rfl) rfl (GR_nil) ?_
  refine GT_nil ?_
  refine GE_seq ?_
  refine GE_slots (L' := []) trivial ?_
  refine GE_plain (.st 0 .nil) rfl ?_
  refine GT_st rfl rfl rfl rfl (V_assign rfl rfl) ?_
  refine GT_nil ?_
  refine GE_ret Tryz.func21 rfl (fun w hw => ?_)
  exact ⟨(A2, c2, I2), hO2, rfl, hw.hs (C := cx Tryz.prog hm 0 0 w0 none' fun _ _ => True) (HS.cons rfl (HS.chunk HS.last))⟩
end
end Go.Proofs.YtdcjgjopmicidaaGreatDoor
