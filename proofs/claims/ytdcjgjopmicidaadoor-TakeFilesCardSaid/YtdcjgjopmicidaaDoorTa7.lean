/- What the laws over takes use: equal lists, greatness, the example; walked. -/
import Derived.Test.YtdcjgjopmicidaaDoorTa6
import Derived.Test.YtdcjgjopmicidaaDoorFb
namespace Go.Proofs.YtdcjgjopmicidaaDoor
open Go.Sx Go.Proofs Go.RowKit

theorem Sam.of_ints {a b : Sam} (h : [a.l, a.r] = [b.l, b.r]) : a = b := by
  obtain ⟨a1, a2⟩ := a; obtain ⟨b1, b2⟩ := b
  simp only [List.cons.injEq, and_true] at h
  obtain ⟨rfl, rfl⟩ := h; rfl
theorem Prt.of_ints {a b : Prt} (h : [a.tk, a.fr, a.to, a.gap, a.inn, a.out, a.lev] = [b.tk, b.fr, b.to, b.gap, b.inn, b.out, b.lev]) : a = b := by
  obtain ⟨a1, a2, a3, a4, a5, a6, a7⟩ := a; obtain ⟨b1, b2, b3, b4, b5, b6, b7⟩ := b
  simp only [List.cons.injEq, and_true] at h
  obtain ⟨rfl, rfl, rfl, rfl, rfl, rfl, rfl⟩ := h; rfl
theorem list_of {α : Type} [Inhabited α] {a b : List α} (hn : a.length = b.length) (h : ∀ i, i < a.length → a.getD i default = b.getD i default) : a = b := by
  apply List.ext_getElem hn
  intro i h1 h2
  have := h i h1
  simpa [List.getD, h1, h2] using this
def bigT (t : Tk) : Bool := decide (100 < t.name.size ∨ 300 < t.data.length ∧ t.data.length ≤ 4096 ∨ 4100 < t.data.length)
def greatB (l : List Tk) (n : Nat) : Bool := decide (20 < l.length ∨ 8 < n ∧ n ≤ 32 ∨ 40 < n) || l.any bigT
theorem greatB_no {l : List Tk} {n : Nat} (h : greatB l n = false) : l.length ≤ 20 ∧ (n ≤ 8 ∨ 32 < n) ∧ n ≤ 40 ∧ ∀ t ∈ l, t.name.size ≤ 100 ∧ (t.data.length ≤ 300 ∨ 4096 < t.data.length) ∧ t.data.length ≤ 4100 := by
  unfold greatB at h
  rw [Bool.or_eq_false_iff, decide_eq_false_iff_not] at h
  refine ⟨by omega, by omega, by omega, fun t ht => ?_⟩
  have := h.2
  rw [List.any_eq_false] at this
  have := this t ht
  unfold bigT at this
  rw [decide_eq_true_iff] at this
  omega
theorem any_of {α : Type} [Inhabited α] {l : List α} {f : α → Bool} {k : Nat} (hk : k < l.length) (h : f (l.getD k default) = true) : l.any f = true := by
  rw [List.any_eq_true]; exact ⟨_, getD_mem hk, h⟩
def exD1 : List Sam := [⟨100, -100⟩, ⟨200, -200⟩, ⟨300, -300⟩, ⟨400, -400⟩]
def exD2 : List Sam := [⟨1000, 0⟩, ⟨1000, 0⟩]
def exL (a b : Nat) : List Tk := [⟨⟨#[97]⟩, some ⟨a, 0, none⟩, 4, exD1⟩, ⟨⟨#[98]⟩, some ⟨b, 0, none⟩, 2, exD2⟩]
def exP : List Prt := [⟨0, 0, 4, 2, 0, 0, 1000⟩, ⟨1, 0, 2, -1, 0, 0, 1000⟩]
def exR : List Sam := [⟨0, 0⟩, ⟨0, 0⟩, ⟨100, -100⟩, ⟨200, -200⟩, ⟨300, -300⟩, ⟨1400, -400⟩, ⟨1000, 0⟩]
theorem ex_err (a b : Nat) : rErr (exL a b) exP = 0 := by kernel_rfl
theorem ex_rend (a b : Nat) : rendL (exL a b) exP = exR := by kernel_rfl
theorem ex_ierr : iErr exR 100 2 = 0 := by kernel_rfl
theorem ex_sil : silL exR 100 2 = [(0, 3)] := by kernel_rfl
section
variable {w : World} {A B : Option Addr} {c c2 : Nat}
theorem C_Same {a b : List Sam} (hn : a.length ≤ 1000000000000) (ha : RdL w 2 eSam A a) (hb : RdL w 2 eSam B b) : Con0 Tryd.prog 23 [.slice A a.length c, .slice B b.length c2] w (.bool (decide (a = b))) := by
  refine Ret_of (vs := [_, _]) hm none' Tryd.func23 rfl Tryd.ntmps23 rfl ?_
  dsimp only [slotsOf]
  refine GE_seq ?_
  refine GE_plain (.st 0 .nil) rfl ?_
  refine GT_st rfl rfl rfl rfl (V_assign rfl rfl) ?_
  refine GT_nil ?_
  refine GE_seq ?_
  refine GE_seq ?_
  refine GE_plain (.st 0 (.st 1 (.st 2 (.st 3 (.st 4 .nil))))) rfl ?_
  refine GT_st rfl rfl rfl rfl (V_move rfl rfl) ?_
  refine GT_st rfl rfl rfl rfl (V_len rfl Tryd.underlying22 rfl) ?_
  refine GT_st rfl rfl rfl rfl (V_move rfl rfl) ?_
  refine GT_st rfl rfl rfl rfl (V_len rfl Tryd.underlying22 rfl) ?_
  refine GT_st rfl rfl rfl rfl (V_neq rfl rfl rfl) ?_
  refine GT_nil ?_
  first | refine GE_condNot rfl (fun h1 => ?_) (fun h1 => ?_) | refine GE_cond rfl (fun h1 => ?_) (fun h1 => ?_) | refine GE_condNotB rfl (fun h1 => ?_) (fun h1 => ?_) | refine GE_condB rfl (fun h1 => ?_) (fun h1 => ?_)
  · skip
    refine GE_seq ?_
    refine GE_slots (L' := []) trivial ?_
    refine GE_plain (.st 0 .nil) rfl ?_
    refine GT_st rfl rfl rfl rfl (V_assign rfl rfl) ?_
    refine GT_nil ?_
    refine GE_ret Tryd.func23 rfl (fun w hw => ⟨?_, hw.nil⟩)
    rw [decide_eq_false (fun e => h1 (by rw [e]))]
  · have hln : a.length = b.length := (by omega)
    refine GE_skip ?_
    refine GE_seq ?_
    refine GE_seq ?_
    refine GE_slots (L' := [(0, _), (1, _)]) ⟨rfl, rfl, trivial⟩ ?_
    refine GE_plain (.st 0 .nil) rfl ?_
    refine GT_st rfl rfl rfl rfl (V_assign rfl rfl) ?_
    refine GT_nil ?_
    refine GE_block ?_
    refine GE_to (GE_loop (ι := Nat) (fun k => a.length - k) (fun k => [(0, .slice A a.length c), (1, .slice B b.length c2), (5, I k)]) (fun k => []) (fun k => k ≤ a.length ∧ ∀ i, i < k → a.getD i default = b.getD i default) ?_ 0 ?_) ⟨rfl, rfl, rfl, trivial⟩ HS.nil
    · rintro k ⟨hk, hall⟩ ih
      refine GE_seq ?_
      refine GE_seq ?_
      refine GE_plain (.st 0 (.st 1 (.st 2 (.st 3 .nil)))) rfl ?_
      refine GT_st rfl rfl rfl rfl (V_move rfl rfl) ?_
      refine GT_st rfl rfl rfl rfl (V_move rfl rfl) ?_
      refine GT_st rfl rfl rfl rfl (V_len rfl Tryd.underlying22 rfl) ?_
      refine GT_st rfl rfl rfl rfl (V_lss rfl rfl rfl) ?_
      refine GT_nil ?_
      first | refine GE_condNot rfl (fun h2 => ?_) (fun h2 => ?_) | refine GE_cond rfl (fun h2 => ?_) (fun h2 => ?_) | refine GE_condNotB rfl (fun h2 => ?_) (fun h2 => ?_) | refine GE_condB rfl (fun h2 => ?_) (fun h2 => ?_)
      · have hka : k < a.length := (by omega); have hkb : k < b.length := (by omega)
        refine GE_skip ?_
        refine GE_seq ?_
        refine GE_block ?_
        refine GE_seq ?_
        refine GE_slots (L' := [(0, _), (1, _), (5, _)]) ⟨rfl, rfl, rfl, trivial⟩ ?_
        refine GE_drawn (.st 0 (.st 1 (.st 2 (.st 3 (.st 4 (.st 5 (.st 6 (.st 7 (.st 8 .nil))))))))) [] (by decide +kernel) ?_
        refine GT_st rfl rfl rfl rfl (V_move rfl rfl) ?_
        refine GT_st rfl rfl rfl rfl (V_move rfl rfl) ?_
        refine GT_st rfl rfl rfl rfl (V_index rfl rfl rfl Tryd.underlying22 sz_45 (k := k) rfl hka (ha.isSome hka)) ?_
        refine GT_st rfl rfl rfl rfl (V_loadN (vs := [_, _]) rfl rfl ag_45 sz_45 rfl (ha.ats noM hka)) ?_
        refine GT_st rfl rfl rfl rfl (V_move rfl rfl) ?_
        refine GT_st rfl rfl rfl rfl (V_move rfl rfl) ?_
        refine GT_st rfl rfl rfl rfl (V_index rfl rfl rfl Tryd.underlying22 sz_45 (k := k) rfl hkb (hb.isSome hkb)) ?_
        refine GT_st rfl rfl rfl rfl (V_loadN (vs := [_, _]) rfl rfl ag_45 sz_45 rfl (hb.ats noM hkb)) ?_
        refine GT_st rfl rfl rfl rfl (V_neqInts (zs := [_, _]) (zs' := [_, _]) rfl rfl rfl is_45 rfl rfl) ?_
        refine GT_nil ?_
        first | refine GE_condNot rfl (fun h3 => ?_) (fun h3 => ?_) | refine GE_cond rfl (fun h3 => ?_) (fun h3 => ?_) | refine GE_condNotB rfl (fun h3 => ?_) (fun h3 => ?_) | refine GE_condB rfl (fun h3 => ?_) (fun h3 => ?_)
        · skip
          refine GE_seq ?_
          refine GE_slots (L' := []) trivial ?_
          refine GE_plain (.st 0 .nil) rfl ?_
          refine GT_st rfl rfl rfl rfl (V_assign rfl rfl) ?_
          refine GT_nil ?_
          refine GE_ret Tryd.func23 rfl (fun w hw => ⟨?_, hw.nil⟩)
          rw [decide_eq_false (fun e => h3 (by rw [e]))]
        · skip
          refine GE_skip ?_
          refine GE_inBlock ?_
          refine GE_slots (L' := [(0, _), (1, _), (5, _)]) ⟨rfl, rfl, rfl, trivial⟩ ?_
          refine GE_plain (.st 0 (.st 1 (.ld 2 [] .nil))) rfl ?_
          refine GT_st rfl rfl rfl rfl (V_move rfl rfl) ?_
          refine GT_st rfl rfl rfl rfl (V_add rfl rfl rfl (wrap_i64 (by omega))) ?_
          refine GT_ldv rfl rfl rfl rfl rfl (V_assign rfl rfl) (GR_nil) ?_
          refine GT_nil ?_
          exact GE_to (ih (k + 1) ⟨by omega, fun i hi => by rcases Nat.lt_or_ge i k with r | r; exact hall i r; rw [show i = k by omega]; exact Sam.of_ints h3⟩ (by omega)) ⟨rfl, rfl, rfl, trivial⟩ HS.nil
      · skip
        refine GE_exit rfl ?_
        refine GE_seq ?_
        refine GE_slots (L' := []) trivial ?_
        refine GE_plain (.st 0 .nil) rfl ?_
        refine GT_st rfl rfl rfl rfl (V_assign rfl rfl) ?_
        refine GT_nil ?_
        refine GE_ret Tryd.func23 rfl (fun w hw => ⟨?_, hw.nil⟩)
        rw [decide_eq_true (list_of hln fun i hi => hall i (by omega))]
    · exact ⟨Nat.zero_le _, fun i hi => absurd hi (Nat.not_lt_zero _)⟩
theorem C_great {l : List Tk} {n : Nat} (h : Tks w A l) : Con0 Tryd.prog 4 [.slice A l.length c, .slice B n c2] w (.bool (greatB l n)) := by
  refine Ret_of (vs := [_, _]) hm none' Tryd.func4 rfl Tryd.ntmps4 rfl ?_
  dsimp only [slotsOf]
  refine GE_seq ?_
  refine GE_plain (.st 0 .nil) rfl ?_
  refine GT_st rfl rfl rfl rfl (V_assign rfl rfl) ?_
  refine GT_nil ?_
  refine GE_cut (ι := Unit) (fun _ => [(0, .slice A l.length c)]) (fun _ => []) (fun _ => l.length ≤ 20 ∧ ¬(8 < n ∧ n ≤ 32) ∧ n ≤ 40) ?_ (fun hk => ?_)
  · rintro _ hg
    refine GE_seq ?_
    refine GE_seq ?_
    refine GE_plain (.st 0 .nil) rfl ?_
    refine GT_st rfl rfl rfl rfl (V_assign rfl rfl) ?_
    refine GT_nil ?_
    refine GE_block ?_
    refine GE_to (GE_loop (ι := Nat) (fun k => l.length - k) (fun k => [(0, .slice A l.length c), (5, I k)]) (fun k => []) (fun k => k ≤ l.length ∧ ∀ i, i < k → bigT (l.getD i default) = false) ?_ 0 ?_) ⟨rfl, rfl, trivial⟩ HS.nil
    · rintro k ⟨hk, hall⟩ ih
      refine GE_seq ?_
      refine GE_seq ?_
      refine GE_plain (.st 0 (.st 1 (.st 2 (.st 3 .nil)))) rfl ?_
      refine GT_st rfl rfl rfl rfl (V_move rfl rfl) ?_
      refine GT_st rfl rfl rfl rfl (V_move rfl rfl) ?_
      refine GT_st rfl rfl rfl rfl (V_len rfl Tryd.underlying27 rfl) ?_
      refine GT_st rfl rfl rfl rfl (V_lss rfl rfl rfl) ?_
      refine GT_nil ?_
      first | refine GE_condNot rfl (fun h2 => ?_) (fun h2 => ?_) | refine GE_cond rfl (fun h2 => ?_) (fun h2 => ?_) | refine GE_condNotB rfl (fun h2 => ?_) (fun h2 => ?_) | refine GE_condB rfl (fun h2 => ?_) (fun h2 => ?_)
      · have hkl : k < l.length := (by omega)
        refine GE_skip ?_
        refine GE_seq ?_
        refine GE_block ?_
        refine GE_seq ?_
        refine GE_slots (L' := [(0, _), (5, _)]) ⟨rfl, rfl, trivial⟩ ?_
        refine GE_plain (.st 0 (.st 1 (.st 2 (.st 3 (.st 4 (.st 5 (.st 6 (.st 7 (.st 8 (.st 9 (.st 10 (.st 11 (.st 12 (.st 13 (.st 14 (.st 15 (.st 16 (.st 17 (.st 18 (.st 19 (.st 20 (.st 21 (.st 22 (.st 23 (.st 24 (.st 25 (.st 26 (.st 27 (.st 28 (.st 29 (.st 30 (.st 31 (.st 32 (.st 33 .nil)))))))))))))))))))))))))))))))))) rfl ?_
        refine GT_st rfl rfl rfl rfl (V_move rfl rfl) ?_
        refine GT_st rfl rfl rfl rfl (V_move rfl rfl) ?_
        refine GT_st rfl rfl rfl rfl (V_index rfl rfl rfl Tryd.underlying27 sz_24 (k := k) rfl hkl (h.1.isSome hkl)) ?_
        first | refine GT_st rfl rfl rfl rfl (V_field rfl rfl fo_24_0) ?_ | refine GT_st rfl rfl rfl rfl (V_fieldA rfl rfl fo_24_0) ?_
        refine GT_st rfl rfl rfl rfl (V_load rfl rfl ag_9 (h.1.at0 noM hkl rfl)) ?_
        refine GT_st rfl rfl rfl rfl (V_len_str rfl Tryd.underlying9 rfl) ?_
        refine GT_st rfl rfl rfl rfl (V_gtr rfl rfl rfl) ?_
        refine GT_st rfl rfl rfl rfl (V_move rfl rfl) ?_
        first | refine GT_splitNot (d := 37) rfl (fun h1 => ?_) (fun h1 => ?_) | refine GT_split (d := 37) rfl (fun h1 => ?_) (fun h1 => ?_) | refine GT_splitNotB (d := 37) rfl (fun h1 => ?_) (fun h1 => ?_) | refine GT_splitB (d := 37) rfl (fun h1 => ?_) (fun h1 => ?_)
        · skip
          refine GT_skip rfl rfl rfl rfl rfl (by decide) rfl rfl ?_
          refine GT_skip rfl rfl rfl rfl rfl (by decide) rfl rfl ?_
          refine GT_skip rfl rfl rfl rfl rfl (by decide) rfl rfl ?_
          refine GT_skip rfl rfl rfl rfl rfl (by decide) rfl rfl ?_
          refine GT_skip rfl rfl rfl rfl rfl (by decide) rfl rfl ?_
          refine GT_skip rfl rfl rfl rfl rfl (by decide) rfl rfl ?_
          refine GT_skip rfl rfl rfl rfl rfl (by decide) rfl rfl ?_
          refine GT_skip rfl rfl rfl rfl rfl (by decide) rfl rfl ?_
          refine GT_skip rfl rfl rfl rfl rfl (by decide) rfl rfl ?_
          refine GT_skip rfl rfl rfl rfl rfl (by decide) rfl rfl ?_
          refine GT_skip rfl rfl rfl rfl rfl (by decide) rfl rfl ?_
          refine GT_skip rfl rfl rfl rfl rfl (by decide) rfl rfl ?_
          refine GT_skip rfl rfl rfl rfl rfl (by decide) rfl rfl ?_
          refine GT_skip rfl rfl rfl rfl rfl (by decide) rfl rfl ?_
          refine GT_skip rfl rfl rfl rfl rfl (by decide) rfl rfl ?_
          refine GT_skip rfl rfl rfl rfl rfl (by decide) rfl rfl ?_
          refine GT_st rfl rfl rfl rfl (V_pick_t rfl rfl rfl) ?_
          refine GT_st rfl rfl rfl rfl (V_move rfl rfl) ?_
          refine GT_skip rfl rfl rfl rfl rfl (by decide) rfl rfl ?_
          refine GT_skip rfl rfl rfl rfl rfl (by decide) rfl rfl ?_
          refine GT_skip rfl rfl rfl rfl rfl (by decide) rfl rfl ?_
          refine GT_skip rfl rfl rfl rfl rfl (by decide) rfl rfl ?_
          refine GT_skip rfl rfl rfl rfl rfl (by decide) rfl rfl ?_
          refine GT_skip rfl rfl rfl rfl rfl (by decide) rfl rfl ?_
          refine GT_skip rfl rfl rfl rfl rfl (by decide) rfl rfl ?_
          refine GT_st rfl rfl rfl rfl (V_pick_t rfl rfl rfl) ?_
          refine GT_nil ?_
          refine GE_cond_t rfl ?_
          refine GE_seq ?_
          refine GE_slots (L' := []) trivial ?_
          refine GE_plain (.st 0 .nil) rfl ?_
          refine GT_st rfl rfl rfl rfl (V_assign rfl rfl) ?_
          refine GT_nil ?_
          refine GE_ret Tryd.func4 rfl (fun w hw => ⟨?_, hw.nil⟩)
          refine congrArg Value.bool ?_; first | (rw [greatB, decide_eq_true (by omega), Bool.true_or]; done) | (rw [greatB, any_of hkl (decide_eq_true (by omega)), Bool.or_true])
        · skip
          refine GT_st_g rfl rfl rfl rfl rfl rfl rfl (V_move rfl rfl) ?_
          refine GT_st_g rfl rfl rfl rfl rfl rfl rfl (V_move rfl rfl) ?_
          refine GT_st_g rfl rfl rfl rfl rfl rfl rfl (V_index rfl rfl rfl Tryd.underlying27 sz_24 (k := k) rfl hkl (h.1.isSome hkl)) ?_
          first | refine GT_st_g rfl rfl rfl rfl rfl rfl rfl (V_field rfl rfl fo_24_1) ?_ | refine GT_st_g rfl rfl rfl rfl rfl rfl rfl (V_fieldA rfl rfl fo_24_1) ?_
          refine GT_st_g rfl rfl rfl rfl rfl rfl rfl (V_load rfl rfl ag_22 (h.1.at1 noM hkl rfl)) ?_
          refine GT_st_g rfl rfl rfl rfl rfl rfl rfl (V_len rfl Tryd.underlying22 rfl) ?_
          refine GT_st_g rfl rfl rfl rfl rfl rfl rfl (V_gtr rfl rfl rfl) ?_
          refine GT_st_g rfl rfl rfl rfl rfl rfl rfl (V_move rfl rfl) ?_
          first | refine GT_splitNot (d := 45) rfl (fun h2 => ?_) (fun h2 => ?_) | refine GT_split (d := 45) rfl (fun h2 => ?_) (fun h2 => ?_) | refine GT_splitNotB (d := 45) rfl (fun h2 => ?_) (fun h2 => ?_) | refine GT_splitB (d := 45) rfl (fun h2 => ?_) (fun h2 => ?_)
          · skip
            refine GT_st_g rfl rfl rfl rfl rfl rfl rfl (V_move rfl rfl) ?_
            refine GT_st_g rfl rfl rfl rfl rfl rfl rfl (V_move rfl rfl) ?_
            refine GT_st_g rfl rfl rfl rfl rfl rfl rfl (V_index rfl rfl rfl Tryd.underlying27 sz_24 (k := k) rfl hkl (h.1.isSome hkl)) ?_
            first | refine GT_st_g rfl rfl rfl rfl rfl rfl rfl (V_field rfl rfl fo_24_1) ?_ | refine GT_st_g rfl rfl rfl rfl rfl rfl rfl (V_fieldA rfl rfl fo_24_1) ?_
            refine GT_st_g rfl rfl rfl rfl rfl rfl rfl (V_load rfl rfl ag_22 (h.1.at1 noM hkl rfl)) ?_
            refine GT_st_g rfl rfl rfl rfl rfl rfl rfl (V_len rfl Tryd.underlying22 rfl) ?_
            refine GT_st_g rfl rfl rfl rfl rfl rfl rfl (V_leq rfl rfl rfl) ?_
            refine GT_st_g rfl rfl rfl rfl rfl rfl rfl (V_pick_t rfl rfl rfl) ?_
            refine GT_st rfl rfl rfl rfl (V_pick_f rfl rfl rfl) ?_
            refine GT_st rfl rfl rfl rfl (V_move rfl rfl) ?_
            first | refine GT_splitNot (d := 55) rfl (fun h3 => ?_) (fun h3 => ?_) | refine GT_split (d := 55) rfl (fun h3 => ?_) (fun h3 => ?_) | refine GT_splitNotB (d := 55) rfl (fun h3 => ?_) (fun h3 => ?_) | refine GT_splitB (d := 55) rfl (fun h3 => ?_) (fun h3 => ?_)
            · skip
              refine GT_skip rfl rfl rfl rfl rfl (by decide) rfl rfl ?_
              refine GT_skip rfl rfl rfl rfl rfl (by decide) rfl rfl ?_
              refine GT_skip rfl rfl rfl rfl rfl (by decide) rfl rfl ?_
              refine GT_skip rfl rfl rfl rfl rfl (by decide) rfl rfl ?_
              refine GT_skip rfl rfl rfl rfl rfl (by decide) rfl rfl ?_
              refine GT_skip rfl rfl rfl rfl rfl (by decide) rfl rfl ?_
              refine GT_skip rfl rfl rfl rfl rfl (by decide) rfl rfl ?_
              refine GT_st rfl rfl rfl rfl (V_pick_t rfl rfl rfl) ?_
              refine GT_nil ?_
              refine GE_cond_t rfl ?_
              refine GE_seq ?_
              refine GE_slots (L' := []) trivial ?_
              refine GE_plain (.st 0 .nil) rfl ?_
              refine GT_st rfl rfl rfl rfl (V_assign rfl rfl) ?_
              refine GT_nil ?_
              refine GE_ret Tryd.func4 rfl (fun w hw => ⟨?_, hw.nil⟩)
              refine congrArg Value.bool ?_; first | (rw [greatB, decide_eq_true (by omega), Bool.true_or]; done) | (rw [greatB, any_of hkl (decide_eq_true (by omega)), Bool.or_true])
            · skip
              refine GT_st_g rfl rfl rfl rfl rfl rfl rfl (V_move rfl rfl) ?_
              refine GT_st_g rfl rfl rfl rfl rfl rfl rfl (V_move rfl rfl) ?_
              refine GT_st_g rfl rfl rfl rfl rfl rfl rfl (V_index rfl rfl rfl Tryd.underlying27 sz_24 (k := k) rfl hkl (h.1.isSome hkl)) ?_
              first | refine GT_st_g rfl rfl rfl rfl rfl rfl rfl (V_field rfl rfl fo_24_1) ?_ | refine GT_st_g rfl rfl rfl rfl rfl rfl rfl (V_fieldA rfl rfl fo_24_1) ?_
              refine GT_st_g rfl rfl rfl rfl rfl rfl rfl (V_load rfl rfl ag_22 (h.1.at1 noM hkl rfl)) ?_
              refine GT_st_g rfl rfl rfl rfl rfl rfl rfl (V_len rfl Tryd.underlying22 rfl) ?_
              refine GT_st_g rfl rfl rfl rfl rfl rfl rfl (V_gtr rfl rfl rfl) ?_
              refine GT_st rfl rfl rfl rfl (V_pick_f rfl rfl rfl) ?_
              refine GT_nil ?_
              first | refine GE_condNot rfl (fun h3 => ?_) (fun h3 => ?_) | refine GE_cond rfl (fun h3 => ?_) (fun h3 => ?_) | refine GE_condNotB rfl (fun h3 => ?_) (fun h3 => ?_) | refine GE_condB rfl (fun h3 => ?_) (fun h3 => ?_)
              · skip
                refine GE_seq ?_
                refine GE_slots (L' := []) trivial ?_
                refine GE_plain (.st 0 .nil) rfl ?_
                refine GT_st rfl rfl rfl rfl (V_assign rfl rfl) ?_
                refine GT_nil ?_
                refine GE_ret Tryd.func4 rfl (fun w hw => ⟨?_, hw.nil⟩)
                rw [greatB, any_of hkl (decide_eq_true (by omega)), Bool.or_true]
              · skip
                refine GE_skip ?_
                refine GE_inBlock ?_
                refine GE_slots (L' := [(0, _), (5, _), (38, _), (39, _), (40, _), (41, _), (42, _), (43, _), (44, _), (45, _), (46, _), (47, _), (48, _), (49, _), (50, _), (51, _), (52, _), (53, _), (56, _), (57, _), (58, _), (59, _), (60, _), (61, _), (62, _)]) ⟨rfl, rfl, rfl, rfl, rfl, rfl, rfl, rfl, rfl, rfl, rfl, rfl, rfl, rfl, rfl, rfl, rfl, rfl, rfl, rfl, rfl, rfl, rfl, rfl, rfl, trivial⟩ ?_
                refine GE_plain (.st 0 (.st 1 (.ld 2 [] .nil))) rfl ?_
                refine GT_st rfl rfl rfl rfl (V_move rfl rfl) ?_
                refine GT_st rfl rfl rfl rfl (V_add rfl rfl rfl (wrap_i64 (by omega))) ?_
                refine GT_ldv rfl rfl rfl rfl rfl (V_assign rfl rfl) (GR_nil) ?_
                refine GT_nil ?_
                exact GE_to (ih (k + 1) ⟨by omega, fun i hi => by rcases Nat.lt_or_ge i k with r | r; exact hall i r; rw [show i = k by omega]; exact decide_eq_false (by omega)⟩ (by omega)) ⟨rfl, rfl, trivial⟩ HS.nil
          · skip
            refine GT_skip rfl rfl rfl rfl rfl (by decide) rfl rfl ?_
            refine GT_skip rfl rfl rfl rfl rfl (by decide) rfl rfl ?_
            refine GT_skip rfl rfl rfl rfl rfl (by decide) rfl rfl ?_
            refine GT_skip rfl rfl rfl rfl rfl (by decide) rfl rfl ?_
            refine GT_skip rfl rfl rfl rfl rfl (by decide) rfl rfl ?_
            refine GT_skip rfl rfl rfl rfl rfl (by decide) rfl rfl ?_
            refine GT_skip rfl rfl rfl rfl rfl (by decide) rfl rfl ?_
            refine GT_st_g rfl rfl rfl rfl rfl rfl rfl (V_pick_f rfl rfl rfl) ?_
            refine GT_st rfl rfl rfl rfl (V_pick_f rfl rfl rfl) ?_
            refine GT_st rfl rfl rfl rfl (V_move rfl rfl) ?_
            refine GT_st_g rfl rfl rfl rfl rfl rfl rfl (V_move rfl rfl) ?_
            refine GT_st_g rfl rfl rfl rfl rfl rfl rfl (V_move rfl rfl) ?_
            refine GT_st_g rfl rfl rfl rfl rfl rfl rfl (V_index rfl rfl rfl Tryd.underlying27 sz_24 (k := k) rfl hkl (h.1.isSome hkl)) ?_
            first | refine GT_st_g rfl rfl rfl rfl rfl rfl rfl (V_field rfl rfl fo_24_1) ?_ | refine GT_st_g rfl rfl rfl rfl rfl rfl rfl (V_fieldA rfl rfl fo_24_1) ?_
            refine GT_st_g rfl rfl rfl rfl rfl rfl rfl (V_load rfl rfl ag_22 (h.1.at1 noM hkl rfl)) ?_
            refine GT_st_g rfl rfl rfl rfl rfl rfl rfl (V_len rfl Tryd.underlying22 rfl) ?_
            refine GT_st_g rfl rfl rfl rfl rfl rfl rfl (V_gtr rfl rfl rfl) ?_
            refine GT_st rfl rfl rfl rfl (V_pick_f rfl rfl rfl) ?_
            refine GT_nil ?_
            first | refine GE_condNot rfl (fun h3 => ?_) (fun h3 => ?_) | refine GE_cond rfl (fun h3 => ?_) (fun h3 => ?_) | refine GE_condNotB rfl (fun h3 => ?_) (fun h3 => ?_) | refine GE_condB rfl (fun h3 => ?_) (fun h3 => ?_)
            · skip
              refine GE_seq ?_
              refine GE_slots (L' := []) trivial ?_
              refine GE_plain (.st 0 .nil) rfl ?_
              refine GT_st rfl rfl rfl rfl (V_assign rfl rfl) ?_
              refine GT_nil ?_
              refine GE_ret Tryd.func4 rfl (fun w hw => ⟨?_, hw.nil⟩)
              rw [greatB, any_of hkl (decide_eq_true (by omega)), Bool.or_true]
            · skip
              refine GE_skip ?_
              refine GE_inBlock ?_
              refine GE_slots (L' := [(0, _), (5, _), (38, _), (39, _), (40, _), (41, _), (42, _), (43, _), (44, _), (45, _), (46, _), (47, _), (48, _), (49, _), (50, _), (51, _), (52, _), (53, _), (56, _), (57, _), (58, _), (59, _), (60, _), (61, _), (62, _)]) ⟨rfl, rfl, rfl, rfl, rfl, rfl, rfl, rfl, rfl, rfl, rfl, rfl, rfl, rfl, rfl, rfl, rfl, rfl, rfl, rfl, rfl, rfl, rfl, rfl, rfl, trivial⟩ ?_
              refine GE_plain (.st 0 (.st 1 (.ld 2 [] .nil))) rfl ?_
              refine GT_st rfl rfl rfl rfl (V_move rfl rfl) ?_
              refine GT_st rfl rfl rfl rfl (V_add rfl rfl rfl (wrap_i64 (by omega))) ?_
              refine GT_ldv rfl rfl rfl rfl rfl (V_assign rfl rfl) (GR_nil) ?_
              refine GT_nil ?_
              exact GE_to (ih (k + 1) ⟨by omega, fun i hi => by rcases Nat.lt_or_ge i k with r | r; exact hall i r; rw [show i = k by omega]; exact decide_eq_false (by omega)⟩ (by omega)) ⟨rfl, rfl, trivial⟩ HS.nil
      · skip
        refine GE_exit rfl ?_
        refine GE_seq ?_
        refine GE_slots (L' := []) trivial ?_
        refine GE_plain (.st 0 .nil) rfl ?_
        refine GT_st rfl rfl rfl rfl (V_assign rfl rfl) ?_
        refine GT_nil ?_
        refine GE_ret Tryd.func4 rfl (fun w hw => ⟨?_, hw.nil⟩)
        rw [greatB, decide_eq_false (by omega), Bool.false_or]; refine congrArg Value.bool (Eq.symm (List.any_eq_false.2 fun x hx => ?_)); obtain ⟨i, hi, rfl⟩ := List.getElem_of_mem hx; have := hall i (by omega); simp [List.getD, hi] at this; simp [this]
    · exact ⟨Nat.zero_le _, fun i hi => absurd hi (Nat.not_lt_zero _)⟩
  · skip
    refine GE_seq ?_
    refine GE_plain (.st 0 (.st 1 (.st 2 (.st 3 (.st 4 (.st 5 (.st 6 (.st 7 (.st 8 (.st 9 (.st 10 (.st 11 (.st 12 (.st 13 (.st 14 (.st 15 (.st 16 (.st 17 .nil)))))))))))))))))) rfl ?_
    refine GT_st rfl rfl rfl rfl (V_move rfl rfl) ?_
    refine GT_st rfl rfl rfl rfl (V_len rfl Tryd.underlying27 rfl) ?_
    refine GT_st rfl rfl rfl rfl (V_gtr rfl rfl rfl) ?_
    refine GT_st rfl rfl rfl rfl (V_move rfl rfl) ?_
    first | refine GT_splitNot (d := 9) rfl (fun h1 => ?_) (fun h1 => ?_) | refine GT_split (d := 9) rfl (fun h1 => ?_) (fun h1 => ?_) | refine GT_splitNotB (d := 9) rfl (fun h1 => ?_) (fun h1 => ?_) | refine GT_splitB (d := 9) rfl (fun h1 => ?_) (fun h1 => ?_)
    · skip
      refine GT_skip rfl rfl rfl rfl rfl (by decide) rfl rfl ?_
      refine GT_skip rfl rfl rfl rfl rfl (by decide) rfl rfl ?_
      refine GT_skip rfl rfl rfl rfl rfl (by decide) rfl rfl ?_
      refine GT_skip rfl rfl rfl rfl rfl (by decide) rfl rfl ?_
      refine GT_skip rfl rfl rfl rfl rfl (by decide) rfl rfl ?_
      refine GT_skip rfl rfl rfl rfl rfl (by decide) rfl rfl ?_
      refine GT_skip rfl rfl rfl rfl rfl (by decide) rfl rfl ?_
      refine GT_skip rfl rfl rfl rfl rfl (by decide) rfl rfl ?_
      refine GT_st rfl rfl rfl rfl (V_pick_t rfl rfl rfl) ?_
      refine GT_st rfl rfl rfl rfl (V_move rfl rfl) ?_
      refine GT_skip rfl rfl rfl rfl rfl (by decide) rfl rfl ?_
      refine GT_skip rfl rfl rfl rfl rfl (by decide) rfl rfl ?_
      refine GT_skip rfl rfl rfl rfl rfl (by decide) rfl rfl ?_
      refine GT_st rfl rfl rfl rfl (V_pick_t rfl rfl rfl) ?_
      refine GT_nil ?_
      refine GE_cond_t rfl ?_
      refine GE_seq ?_
      refine GE_slots (L' := []) trivial ?_
      refine GE_plain (.st 0 .nil) rfl ?_
      refine GT_st rfl rfl rfl rfl (V_assign rfl rfl) ?_
      refine GT_nil ?_
      refine GE_ret Tryd.func4 rfl (fun w hw => ⟨?_, hw.nil⟩)
      refine congrArg Value.bool ?_; first | (rw [greatB, decide_eq_true (by omega), Bool.true_or]; done) | (rw [greatB, any_of hkl (decide_eq_true (by omega)), Bool.or_true])
    · skip
      refine GT_st_g rfl rfl rfl rfl rfl rfl rfl (V_move rfl rfl) ?_
      refine GT_st_g rfl rfl rfl rfl rfl rfl rfl (V_len rfl Tryd.underlying36 rfl) ?_
      refine GT_st_g rfl rfl rfl rfl rfl rfl rfl (V_gtr rfl rfl rfl) ?_
      refine GT_st_g rfl rfl rfl rfl rfl rfl rfl (V_move rfl rfl) ?_
      first | refine GT_splitNot (d := 13) rfl (fun h2 => ?_) (fun h2 => ?_) | refine GT_split (d := 13) rfl (fun h2 => ?_) (fun h2 => ?_) | refine GT_splitNotB (d := 13) rfl (fun h2 => ?_) (fun h2 => ?_) | refine GT_splitB (d := 13) rfl (fun h2 => ?_) (fun h2 => ?_)
      · skip
        refine GT_st_g rfl rfl rfl rfl rfl rfl rfl (V_move rfl rfl) ?_
        refine GT_st_g rfl rfl rfl rfl rfl rfl rfl (V_len rfl Tryd.underlying36 rfl) ?_
        refine GT_st_g rfl rfl rfl rfl rfl rfl rfl (V_leq rfl rfl rfl) ?_
        refine GT_st_g rfl rfl rfl rfl rfl rfl rfl (V_pick_t rfl rfl rfl) ?_
        refine GT_st rfl rfl rfl rfl (V_pick_f rfl rfl rfl) ?_
        refine GT_st rfl rfl rfl rfl (V_move rfl rfl) ?_
        first | refine GT_splitNot (d := 19) rfl (fun h3 => ?_) (fun h3 => ?_) | refine GT_split (d := 19) rfl (fun h3 => ?_) (fun h3 => ?_) | refine GT_splitNotB (d := 19) rfl (fun h3 => ?_) (fun h3 => ?_) | refine GT_splitB (d := 19) rfl (fun h3 => ?_) (fun h3 => ?_)
        · skip
          refine GT_skip rfl rfl rfl rfl rfl (by decide) rfl rfl ?_
          refine GT_skip rfl rfl rfl rfl rfl (by decide) rfl rfl ?_
          refine GT_skip rfl rfl rfl rfl rfl (by decide) rfl rfl ?_
          refine GT_st rfl rfl rfl rfl (V_pick_t rfl rfl rfl) ?_
          refine GT_nil ?_
          refine GE_cond_t rfl ?_
          refine GE_seq ?_
          refine GE_slots (L' := []) trivial ?_
          refine GE_plain (.st 0 .nil) rfl ?_
          refine GT_st rfl rfl rfl rfl (V_assign rfl rfl) ?_
          refine GT_nil ?_
          refine GE_ret Tryd.func4 rfl (fun w hw => ⟨?_, hw.nil⟩)
          refine congrArg Value.bool ?_; first | (rw [greatB, decide_eq_true (by omega), Bool.true_or]; done) | (rw [greatB, any_of hkl (decide_eq_true (by omega)), Bool.or_true])
        · skip
          refine GT_st_g rfl rfl rfl rfl rfl rfl rfl (V_move rfl rfl) ?_
          refine GT_st_g rfl rfl rfl rfl rfl rfl rfl (V_len rfl Tryd.underlying36 rfl) ?_
          refine GT_st_g rfl rfl rfl rfl rfl rfl rfl (V_gtr rfl rfl rfl) ?_
          refine GT_st rfl rfl rfl rfl (V_pick_f rfl rfl rfl) ?_
          refine GT_nil ?_
          first | refine GE_condNot rfl (fun h1 => ?_) (fun h1 => ?_) | refine GE_cond rfl (fun h1 => ?_) (fun h1 => ?_) | refine GE_condNotB rfl (fun h1 => ?_) (fun h1 => ?_) | refine GE_condB rfl (fun h1 => ?_) (fun h1 => ?_)
          · skip
            refine GE_seq ?_
            refine GE_slots (L' := []) trivial ?_
            refine GE_plain (.st 0 .nil) rfl ?_
            refine GT_st rfl rfl rfl rfl (V_assign rfl rfl) ?_
            refine GT_nil ?_
            refine GE_ret Tryd.func4 rfl (fun w hw => ⟨?_, hw.nil⟩)
            rw [greatB, decide_eq_true (by omega), Bool.true_or]
          · skip
            refine GE_skip ?_
            exact GE_to (hk () ⟨by omega, by omega, by omega⟩) ⟨rfl, trivial⟩ HS.nil
      · skip
        refine GT_skip rfl rfl rfl rfl rfl (by decide) rfl rfl ?_
        refine GT_skip rfl rfl rfl rfl rfl (by decide) rfl rfl ?_
        refine GT_skip rfl rfl rfl rfl rfl (by decide) rfl rfl ?_
        refine GT_st_g rfl rfl rfl rfl rfl rfl rfl (V_pick_f rfl rfl rfl) ?_
        refine GT_st rfl rfl rfl rfl (V_pick_f rfl rfl rfl) ?_
        refine GT_st rfl rfl rfl rfl (V_move rfl rfl) ?_
        refine GT_st_g rfl rfl rfl rfl rfl rfl rfl (V_move rfl rfl) ?_
        refine GT_st_g rfl rfl rfl rfl rfl rfl rfl (V_len rfl Tryd.underlying36 rfl) ?_
        refine GT_st_g rfl rfl rfl rfl rfl rfl rfl (V_gtr rfl rfl rfl) ?_
        refine GT_st rfl rfl rfl rfl (V_pick_f rfl rfl rfl) ?_
        refine GT_nil ?_
        first | refine GE_condNot rfl (fun h1 => ?_) (fun h1 => ?_) | refine GE_cond rfl (fun h1 => ?_) (fun h1 => ?_) | refine GE_condNotB rfl (fun h1 => ?_) (fun h1 => ?_) | refine GE_condB rfl (fun h1 => ?_) (fun h1 => ?_)
        · skip
          refine GE_seq ?_
          refine GE_slots (L' := []) trivial ?_
          refine GE_plain (.st 0 .nil) rfl ?_
          refine GT_st rfl rfl rfl rfl (V_assign rfl rfl) ?_
          refine GT_nil ?_
          refine GE_ret Tryd.func4 rfl (fun w hw => ⟨?_, hw.nil⟩)
          rw [greatB, decide_eq_true (by omega), Bool.true_or]
        · skip
          refine GE_skip ?_
          exact GE_to (hk () ⟨by omega, by omega, by omega⟩) ⟨rfl, trivial⟩ HS.nil
theorem C_Example : Con Tryd.prog 11 [] w (fun _ : Nat × Nat × Nat × Nat => True) (fun y => .tuple #[.slice (some ⟨y.1, 0, none⟩) 2 2, .slice (some ⟨y.2.1, 0, none⟩) 2 2])
    (fun y => [(y.1, blk ((exL y.2.2.1 y.2.2.2).flatMap eTk) 24), (y.2.1, blk (exP.flatMap ePrt) 65), (y.2.2.1, blk (exD1.flatMap eSam) 45), (y.2.2.2, blk (exD2.flatMap eSam) 45)]) := by
  refine Ret_of (vs := []) hm none' Tryd.func11 rfl Tryd.ntmps11 rfl ?_
  dsimp only [slotsOf]
  refine GE_seq ?_
  refine GE_plain (.st 0 (.st 1 .nil)) rfl ?_
  refine GT_st rfl rfl rfl rfl (V_assign rfl rfl) ?_
  refine GT_st rfl rfl rfl rfl (V_assign rfl rfl) ?_
  refine GT_nil ?_
  refine GE_seq ?_
  refine GE_plain (.st 0 (.st 1 (.st 2 (.st 3 (.ld 4 [] (.st 5 (.ld 6 [] (.ld 7 [] .nil)))))))) rfl ?_
  refine GT_st rfl rfl rfl rfl (V_build (vs := [_, _]) rfl rfl zc_45 pl_45 sa_45 rfl) ?_
  refine GT_st rfl rfl rfl rfl (V_build (vs := [_, _]) rfl rfl zc_45 pl_45 sa_45 rfl) ?_
  refine GT_st rfl rfl rfl rfl (V_build (vs := [_, _]) rfl rfl zc_45 pl_45 sa_45 rfl) ?_
  refine GT_st rfl rfl rfl rfl (V_build (vs := [_, _]) rfl rfl zc_45 pl_45 sa_45 rfl) ?_
  refine GT_buildSlice (z := [_, _, _, _, _, _, _, _]) rfl rfl rfl rfl rfl Tryd.underlying22 zc_45 sz_45 (by decide) rfl rfl (fun _ => GR_nil) (fun b8 => ?_)
  refine GT_st rfl rfl rfl rfl (V_build (vs := [_, _]) rfl rfl zc_24 pl_24 sa_24 rfl) ?_
  refine GT_alloc rfl rfl rfl rfl rfl zc_24 (fun _ => GR_nil) (fun b2 => ?_)
  refine GT_store (vs := [_, _]) (l' := [_, _]) rfl rfl rfl rfl rfl rfl rfl sz_24 rfl rfl (Nat.le_of_ble_eq_true rfl) rfl (GR_nil) ?_
  refine GT_nil ?_
  refine GE_seq ?_
  refine GE_slots (L' := [(2, _)]) ⟨rfl, trivial⟩ ?_
  refine GE_plain (.st 0 (.st 1 (.ld 2 [] (.st 3 (.ld 4 [] (.ld 5 [] .nil)))))) rfl ?_
  refine GT_st rfl rfl rfl rfl (V_build (vs := [_, _]) rfl rfl zc_45 pl_45 sa_45 rfl) ?_
  refine GT_st rfl rfl rfl rfl (V_build (vs := [_, _]) rfl rfl zc_45 pl_45 sa_45 rfl) ?_
  refine GT_buildSlice (z := [_, _, _, _]) rfl rfl rfl rfl rfl Tryd.underlying22 zc_45 sz_45 (by decide) rfl rfl (fun _ => GR_nil) (fun b12 => ?_)
  refine GT_st rfl rfl rfl rfl (V_build (vs := [_, _]) rfl rfl zc_24 pl_24 sa_24 rfl) ?_
  refine GT_alloc rfl rfl rfl rfl rfl zc_24 (fun _ => GR_nil) (fun b3 => ?_)
  refine GT_store (vs := [_, _]) (l' := [_, _]) rfl rfl rfl rfl rfl rfl rfl sz_24 rfl rfl (Nat.le_of_ble_eq_true rfl) rfl (GR_nil) ?_
  refine GT_nil ?_
  refine GE_seq ?_
  refine GE_slots (L' := [(2, _), (3, _)]) ⟨rfl, rfl, trivial⟩ ?_
  refine GE_plain (.st 0 (.st 1 (.ld 2 [] (.st 3 (.st 4 (.ld 5 [] (.st 6 (.st 7 .nil)))))))) rfl ?_
  refine GT_st rfl rfl rfl rfl (V_loadN (vs := [_, _]) rfl rfl ag_24 sz_24 rfl (CellsAt.item rfl)) ?_
  refine GT_st rfl rfl rfl rfl (V_loadN (vs := [_, _]) rfl rfl ag_24 sz_24 rfl (CellsAt.item rfl)) ?_
  refine GT_buildSlice (z := [_, _, _, _]) rfl rfl rfl rfl rfl Tryd.underlying27 zc_24 sz_24 (by decide) rfl rfl (fun _ => GR_nil) (fun b16 => ?_)
  refine GT_st rfl rfl rfl rfl (V_build (vs := [_, _, _, _, _, _, _]) rfl rfl zc_65 pl_65 sa_65 rfl) ?_
  refine GT_st rfl rfl rfl rfl (V_build (vs := [_, _, _, _, _, _, _]) rfl rfl zc_65 pl_65 sa_65 rfl) ?_
  refine GT_buildSlice (z := [_, _, _, _, _, _, _, _, _, _, _, _, _, _]) rfl rfl rfl rfl rfl Tryd.underlying36 zc_65 sz_65 (by decide) rfl rfl (fun _ => GR_nil) (fun b19 => ?_)
  refine GT_st rfl rfl rfl rfl (V_assign rfl rfl) ?_
  refine GT_st rfl rfl rfl rfl (V_assign rfl rfl) ?_
  refine GT_nil ?_
  refine GE_ret Tryd.func11 ⟨_, _, rfl, rfl, rfl⟩ (fun w hw => ?_)
  exact ⟨(b16, b19, b8, b12), trivial, rfl, hw.hs (C := cx Tryd.prog hm 0 0 _ none' fun _ _ => True) (HS.cons rfl (HS.cons rfl (HS.cons rfl (HS.cons rfl HS.nil))))⟩
theorem ex_tks {w0 : World} {M : Nat → Prop} {H : Items} {y1 y3 y4 : Nat} (m : SH w0 M H w) [HFind y1 H (blk ((exL y3 y4).flatMap eTk) 24)] [HFind y3 H (blk (exD1.flatMap eSam) 45)] [HFind y4 H (blk (exD2.flatMap eSam) 45)] : Tks w (some ⟨y1, 0, none⟩) (exL y3 y4) := by
  refine ⟨RdL.own' m eTk_len, fun t ht => ?_⟩
  simp only [exL, List.mem_cons, List.not_mem_nil, or_false] at ht
  rcases ht with rfl | rfl
  · refine ⟨RdL.own' m eSam_len, show 1 ≤ maxLen by decide, show 4 ≤ 4 by decide, fun s hs => ?_⟩
    simp only [exD1, List.mem_cons, List.not_mem_nil, or_false] at hs
    rcases hs with rfl | rfl | rfl | rfl <;> exact ⟨by unfold I64; decide, by unfold I64; decide⟩
  · refine ⟨RdL.own' m eSam_len, show 1 ≤ maxLen by decide, show 2 ≤ 2 by decide, fun s hs => ?_⟩
    simp only [exD2, List.mem_cons, List.not_mem_nil, or_false] at hs
    rcases hs with rfl | rfl <;> exact ⟨by unfold I64; decide, by unfold I64; decide⟩
theorem C_RenderEx {a b : Nat} (h : Tks w A (exL a b)) (hp : RdL w 7 ePrt B exP) : Con Tryd.prog 12 [.slice A 2 c, .slice B 2 c2] w (fun y : Option Addr × Nat × Items => Own 2 45 eSam exR (.slice y.1 exR.length y.2.1) y.2.2)
    (fun y => .tuple #[.slice y.1 exR.length y.2.1, I 0]) (fun y => y.2.2) := by
  have h1 := C_Render (c := c) (c2 := c2) h hp
  rw [ex_err, ex_rend] at h1
  exact h1
theorem C_SilEx (h : RdL w 2 eSam A exR) : Con Tryd.prog 13 [.slice A exR.length c, I 100, I 2] w (fun y : Option Addr × Nat × Items => Own 2 46 eIv [(0, 3)] (.slice y.1 1 y.2.1) y.2.2)
    (fun y => .tuple #[.slice y.1 1 y.2.1, I 0]) (fun y => y.2.2) := by
  have h1 := C_Silences (c := c) (a := 100) (least := 2) h
  rw [ex_ierr, ex_sil] at h1
  exact h1
set_option maxRecDepth 10000 in
theorem C_Works : Con0 Tryd.prog 5 [] w (.bool true) := by
  refine Ret_of (vs := []) hm none' Tryd.func5 rfl Tryd.ntmps5 rfl ?_
  dsimp only [slotsOf]
  refine GE_seq ?_
  refine GE_plain (.st 0 .nil) rfl ?_
  refine GT_st rfl rfl rfl rfl (V_assign rfl rfl) ?_
  refine GT_nil ?_
  refine GE_seq ?_
  refine GE_plain (.ld 0 [] (.st 1 (.st 2 (.st 3 (.st 4 (.st 5 .nil)))))) rfl ?_
  refine GT_call rfl rfl rfl rfl rfl rfl rfl rfl rn_11 (fun w hw => C_Example) (fun _ _ => GR_nil) (fun y hy => ?_)
  refine GT_st rfl rfl rfl rfl (V_move rfl rfl) ?_
  refine GT_st rfl rfl rfl rfl (V_extract rfl rfl rfl) ?_
  refine GT_st rfl rfl rfl rfl (V_extract rfl rfl rfl) ?_
  refine GT_st rfl rfl rfl rfl (V_assign rfl rfl) ?_
  refine GT_st rfl rfl rfl rfl (V_assign rfl rfl) ?_
  refine GT_nil ?_
  refine GE_seq ?_
  refine GE_slots (L' := [(1, _), (2, _)]) ⟨rfl, rfl, trivial⟩ ?_
  refine GE_plain (.st 0 (.st 1 (.ld 2 [] (.st 3 (.st 4 (.st 5 (.st 6 (.st 7 .nil)))))))) rfl ?_
  refine GT_st rfl rfl rfl rfl (V_move rfl rfl) ?_
  refine GT_st rfl rfl rfl rfl (V_move rfl rfl) ?_
  refine GT_call rfl rfl rfl rfl rfl rfl rfl rfl rn_12 (fun w hw => C_RenderEx (ex_tks hw) (RdL.own' hw ePrt_len)) (fun _ _ => GR_nil) (fun r hr => ?_)
  refine GT_st rfl rfl rfl rfl (V_move rfl rfl) ?_
  refine GT_st rfl rfl rfl rfl (V_extract rfl rfl rfl) ?_
  refine GT_st rfl rfl rfl rfl (V_extract rfl rfl rfl) ?_
  refine GT_st rfl rfl rfl rfl (V_assign rfl rfl) ?_
  refine GT_st rfl rfl rfl rfl (V_assign rfl rfl) ?_
  refine GT_nil ?_
  refine GE_seq ?_
  refine GE_slots (L' := [(3, _), (4, _)]) ⟨rfl, rfl, trivial⟩ ?_
  refine GE_plain (.st 0 (.ld 1 [] (.st 2 (.st 3 (.st 4 (.st 5 (.st 6 .nil))))))) rfl ?_
  refine GT_st rfl rfl rfl rfl (V_move rfl rfl) ?_
  refine GT_call rfl rfl rfl rfl rfl rfl rfl rfl rn_13 (fun w hw => C_SilEx (hr.rdH eSam_len hw)) (fun _ _ => GR_nil) (fun z hz => ?_)
  refine GT_st rfl rfl rfl rfl (V_move rfl rfl) ?_
  refine GT_st rfl rfl rfl rfl (V_extract rfl rfl rfl) ?_
  refine GT_st rfl rfl rfl rfl (V_extract rfl rfl rfl) ?_
  refine GT_st rfl rfl rfl rfl (V_assign rfl rfl) ?_
  refine GT_st rfl rfl rfl rfl (V_assign rfl rfl) ?_
  refine GT_nil ?_
  refine GE_seq ?_
  refine GE_slots (L' := [(3, _), (4, _), (5, _), (6, _)]) ⟨rfl, rfl, rfl, rfl, trivial⟩ ?_
  refine GE_plain (.st 0 (.st 1 (.st 2 (.st 3 (.st 4 (.st 5 (.st 6 (.st 7 (.st 8 (.st 9 (.st 10 (.st 11 (.st 12 (.st 13 (.st 14 (.st 15 (.st 16 (.st 17 (.st 18 (.st 19 (.st 20 (.st 21 (.st 22 (.st 23 (.st 24 (.st 25 (.st 26 (.st 27 (.st 28 .nil))))))))))))))))))))))))))))) rfl ?_
  refine GT_st rfl rfl rfl rfl (V_move rfl rfl) ?_
  refine GT_st rfl rfl rfl rfl (V_move rfl rfl) ?_
  refine GT_st rfl rfl rfl rfl (V_add rfl rfl rfl (wrap_i64 (by omega))) ?_
  refine GT_st rfl rfl rfl rfl (V_isT (V_eql rfl rfl rfl) (by decide)) ?_
  refine GT_st rfl rfl rfl rfl (V_move rfl rfl) ?_
  refine GT_st_g rfl rfl rfl rfl rfl rfl rfl (V_move rfl rfl) ?_
  refine GT_st_g rfl rfl rfl rfl rfl rfl rfl (V_len rfl Tryd.underlying22 rfl) ?_
  refine GT_st_g rfl rfl rfl rfl rfl rfl rfl (V_isT (V_eql rfl rfl rfl) (by decide)) ?_
  refine GT_st rfl rfl rfl rfl (V_pick_t rfl rfl rfl) ?_
  refine GT_st rfl rfl rfl rfl (V_move rfl rfl) ?_
  refine GT_st_g rfl rfl rfl rfl rfl rfl rfl (V_move rfl rfl) ?_
  refine GT_st_g rfl rfl rfl rfl rfl rfl rfl (V_index (k := 5) rfl rfl rfl Tryd.underlying22 sz_45 rfl (by decide) (hr.isSome (k := 5) (by decide))) ?_
  refine GT_st_g rfl rfl rfl rfl rfl rfl rfl (V_loadN (vs := [_, _]) rfl rfl ag_45 sz_45 rfl (CellsAt.ownE hr eSam_len (k := 5) (by decide) rfl)) ?_
  refine GT_st_g rfl rfl rfl rfl rfl rfl rfl (V_build (vs := [_, _]) rfl rfl zc_45 pl_45 sa_45 rfl) ?_
  refine GT_st_g rfl rfl rfl rfl rfl rfl rfl (V_isT (V_eqlInts (zs := [1400, -400]) (zs' := [1400, -400]) rfl rfl rfl is_45 rfl rfl) rfl) ?_
  refine GT_st rfl rfl rfl rfl (V_pick_t rfl rfl rfl) ?_
  refine GT_st rfl rfl rfl rfl (V_move rfl rfl) ?_
  refine GT_st_g rfl rfl rfl rfl rfl rfl rfl (V_move rfl rfl) ?_
  refine GT_st_g rfl rfl rfl rfl rfl rfl rfl (V_len rfl Tryd.underlying41 rfl) ?_
  refine GT_st_g rfl rfl rfl rfl rfl rfl rfl (V_isT (V_eql rfl rfl rfl) (by decide)) ?_
  refine GT_st rfl rfl rfl rfl (V_pick_t rfl rfl rfl) ?_
  refine GT_st rfl rfl rfl rfl (V_move rfl rfl) ?_
  refine GT_st_g rfl rfl rfl rfl rfl rfl rfl (V_move rfl rfl) ?_
  refine GT_st_g rfl rfl rfl rfl rfl rfl rfl (V_index (k := 0) rfl rfl rfl Tryd.underlying41 sz_46 rfl (by decide) (hz.isSome (k := 0) (by decide))) ?_
  refine GT_st_g rfl rfl rfl rfl rfl rfl rfl (V_loadN (vs := [_, _]) rfl rfl ag_46 sz_46 rfl (CellsAt.ownE hz eIv_len (k := 0) (by decide) rfl)) ?_
  refine GT_st_g rfl rfl rfl rfl rfl rfl rfl (V_build (vs := [_, _]) rfl rfl zc_46 pl_46 sa_46 rfl) ?_
  refine GT_st_g rfl rfl rfl rfl rfl rfl rfl (V_eqlArr2 rfl rfl rfl Tryd.underlying46 Tryd.underlying3 sz_3 eg_46) ?_
  refine GT_st rfl rfl rfl rfl (V_pick_t rfl rfl rfl) ?_
  refine GT_st rfl rfl rfl rfl (V_assign rfl rfl) ?_
  refine GT_nil ?_
  refine GE_ret Tryd.func5 rfl (fun w hw => ⟨?_, hw.nil⟩)
  rfl
end
end Go.Proofs.YtdcjgjopmicidaaDoor
