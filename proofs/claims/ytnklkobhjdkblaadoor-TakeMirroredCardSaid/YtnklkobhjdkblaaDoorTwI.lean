/- What TbI leans on, in one text. -/
import Derived.Test.YtnklkobhjdkblaaDoorTa7
import Derived.Test.YtnklkobhjdkblaaDoorTaC
import Derived.Test.YtnklkobhjdkblaaDoorTaD
import Derived.Test.YtnklkobhjdkblaaDoorSxJ
import Derived.Test.YtnklkobhjdkblaaDoorTaE
import Derived.Test.YtnklkobhjdkblaaDoorTaF
import Derived.Test.YtnklkobhjdkblaaDoorSxK
import Derived.Test.YtnklkobhjdkblaaDoorTaH
import Derived.Test.YtnklkobhjdkblaaDoorTaG
import Derived.Test.YtnklkobhjdkblaaDoorTaI
import Derived.Test.YtnklkobhjdkblaaDoorTaU
namespace Go.Proofs.YtnklkobhjdkblaaDoor
open Go.Sx Go.Proofs Go.RowKit

theorem nm_all {s : ByteArray} : s.data.toList.all nmB = true ↔ ∀ i, i < s.size → nmB (s.data.toList.getD i 0) = true := by
  have hl : s.data.toList.length = s.size := by rw [Array.length_toList]; rfl
  rw [List.all_eq_true]
  constructor
  · intro h i hi; rw [List.getD, List.getElem?_eq_getElem (by omega)]; exact h _ (List.getElem_mem _)
  · intro h x hx
    obtain ⟨i, hi, rfl⟩ := List.getElem_of_mem hx
    have := h i (by omega)
    rw [List.getD, List.getElem?_eq_getElem hi] at this
    exact this
theorem nmB_iff {b : UInt8} : nmB b = true ↔ (97 ≤ (b.toNat : Int) ∧ (b.toNat : Int) ≤ 122) ∨ (48 ≤ (b.toNat : Int) ∧ (b.toNat : Int) ≤ 57) := by
  unfold nmB; simp only [Bool.or_eq_true, Bool.and_eq_true, decide_eq_true_iff]; omega
theorem isNm_iff {s : ByteArray} : isNm s = true ↔ (1 ≤ s.size ∧ s.size ≤ 20) ∧ ∀ i, i < s.size → nmB (s.data.toList.getD i 0) = true := by
  unfold isNm; simp only [Bool.and_eq_true, decide_eq_true_iff]; rw [nm_all]
theorem lErr_two {l : List Tk} (h1 : 1 ≤ l.length ∧ l.length ≤ 16) (h6 : ∀ i, i < l.length → (l.getD i default).data.length ≤ 4096) {k : Nat} (hk : k < l.length) (h : tErr (l.getD k default) ≠ 0) : lErr l = 2 := by
  have n6 : ¬ l.any (fun t => decide (tErr t = 6)) = true := by
    rw [List.any_eq_true]; rintro ⟨t, ht, e⟩
    obtain ⟨i, hi, rfl⟩ := List.getElem_of_mem ht
    have := h6 i hi
    rw [decide_eq_true_iff, tErr_six] at e
    simp [List.getD, hi] at this; omega
  unfold lErr
  rw [if_neg (by omega), if_neg n6, if_pos (any_of hk (decide_eq_true h))]
theorem lErr_rest {l : List Tk} (h1 : 1 ≤ l.length ∧ l.length ≤ 16) (h0 : ∀ i, i < l.length → tErr (l.getD i default) = 0) : lErr l = if (l.map Tk.name).Nodup then 0 else 12 := by
  have all : ∀ t ∈ l, tErr t = 0 := by
    intro t ht
    obtain ⟨i, hi, rfl⟩ := List.getElem_of_mem ht
    have := h0 i hi
    simpa [List.getD, hi] using this
  have n6 : ¬ l.any (fun t => decide (tErr t = 6)) = true := by
    rw [List.any_eq_true]; rintro ⟨t, ht, e⟩
    have := all t ht
    rw [decide_eq_true_iff] at e; omega
  have n2 : ¬ l.any (fun t => decide (tErr t ≠ 0)) = true := by
    rw [List.any_eq_true]; rintro ⟨t, ht, e⟩
    have := all t ht
    rw [decide_eq_true_iff] at e; omega
  unfold lErr
  rw [if_neg (by omega), if_neg n6, if_neg n2]
theorem names_apart {l : List Tk} (h : ∀ i j, i < l.length → j < i → (l.getD i default).name ≠ (l.getD j default).name) : (l.map Tk.name).Nodup := by
  rw [List.Nodup, List.pairwise_iff_getElem]
  intro i j hi hj hij
  rw [List.length_map] at hi hj
  have := h j i hj hij
  simp [List.getD, hi, hj] at this
  simp only [List.getElem_map]
  exact fun e => this e.symm
theorem names_same {l : List Tk} {i j : Nat} (hi : i < l.length) (hj : j < i) (h : (l.getD i default).name = (l.getD j default).name) : ¬ (l.map Tk.name).Nodup := by
  rw [List.Nodup, List.pairwise_iff_getElem]
  intro hn
  have := hn j i (by rw [List.length_map]; omega) (by rw [List.length_map]; omega) hj
  simp [List.getD, hi, show j < l.length by omega] at h
  simp only [List.getElem_map] at this
  exact this h.symm
def bgns (p : List Prt) (n : Nat) : List Int := (List.range n).map fun i => bgn p i
theorem bgns_len (p : List Prt) (n : Nat) : (bgns p n).length = n := by simp [bgns]
theorem bgns_succ (p : List Prt) (n : Nat) : bgns p (n + 1) = bgns p n ++ [bgn p n] := by simp [bgns, List.range_succ]
theorem bgns_get {p : List Prt} {n i : Nat} (hi : i < n) : (bgns p n).getD i default = bgn p i := by simp [bgns, List.getD, hi]
theorem bgn_succ {p : List Prt} {i : Nat} (h0 : 0 < i) (hi : i < p.length) : bgn p i = en p (i - 1) + (pt p i).gap := by
  unfold bgn
  rw [← fin_take (i := i - 1) (by omega), show i - 1 + 1 = i by omega]
/-- valid parts, and what is known of their sums -/
structure Gd (l : List Tk) (p : List Prt) : Prop where
  tks : TksOk l
  most : p.length ≤ 32
  each : ∀ i, i < p.length → PrtOk l (pt p i)
theorem gd_fin {l : List Tk} {p : List Prt} (h : Gd l p) {k : Nat} (hk : k ≤ p.length) : -262144 ≤ fin (p.take k) ∧ fin (p.take k) ≤ 262144 := by
  have := fin_bd h.tks k hk (fun i hi => goodP_iff.2 (h.each i (by omega)))
  have := h.most; omega
theorem gd_prt {l : List Tk} {p : List Prt} (h : Gd l p) {i : Nat} (hi : i < p.length) : (-4096 ≤ (pt p i).gap ∧ (pt p i).gap ≤ 4096) ∧ (1 ≤ lng (pt p i) ∧ lng (pt p i) ≤ 4096) ∧ 0 ≤ (pt p i).fr ∧ (pt p i).to ≤ 4096 := by
  have h2 := h.each i hi
  have h3 := h2.frto
  have h4 := h2.fr0
  have h5 := h2.to1
  have h7 : (tkOf l (pt p i)).data.length ≤ 4096 := by
    have a := h2.tk0; have b := h2.tk1
    exact (tErr_zero.1 (h.tks.each _ (getD_mem (i := (pt p i).tk.toNat) (by omega)))).1
  refine ⟨h2.gap, ?_⟩
  unfold lng; omega
theorem gd_bgn {l : List Tk} {p : List Prt} (h : Gd l p) {i : Nat} (hi : i < p.length) : (-280000 ≤ bgn p i ∧ bgn p i ≤ 280000) ∧ (-280000 ≤ en p i ∧ en p i ≤ 280000) ∧ en p i = bgn p i + lng (pt p i) ∧ bgn p i = fin (p.take i) + (pt p i).gap := by
  have h1 := gd_fin h (k := i) (by omega)
  have h2 := gd_prt h hi
  refine ⟨?_, ?_, rfl, rfl⟩
  · unfold bgn; omega
  · unfold en bgn; omega
section
variable {w : World} {A A2 : Option Addr} {c c2 : Nat}
theorem C_rIsName {s : ByteArray} : Con0 Tryd.prog 72 [.string s] w (.bool (isNm s)) := by
  have no : ∀ {p : Prop}, ¬ ((1 ≤ s.size ∧ s.size ≤ 20) ∧ ∀ i, i < s.size → nmB (s.data.toList.getD i 0) = true) → isNm s = false := fun h => by rw [Bool.eq_false_iff]; exact fun e => h (isNm_iff.1 e)
  refine Ret_of (vs := [_]) hm none' Tryd.func72 rfl Tryd.ntmps72 rfl ?_
  dsimp only [slotsOf]
  refine GE_seq ?_
  refine GE_plain (.st 0 .nil) rfl ?_
  refine GT_st rfl rfl rfl rfl (V_assign rfl rfl) ?_
  refine GT_nil ?_
  refine GE_seq ?_
  refine GE_seq ?_
  refine GE_plain (.st 0 (.st 1 (.st 2 (.st 3 (.st 4 (.st 5 (.st 6 (.st 7 .nil)))))))) rfl ?_
  refine GT_st rfl rfl rfl rfl (V_move rfl rfl) ?_
  refine GT_st rfl rfl rfl rfl (V_len_str rfl Tryd.underlying9 rfl) ?_
  refine GT_st rfl rfl rfl rfl (V_lss rfl rfl rfl) ?_
  refine GT_st rfl rfl rfl rfl (V_move rfl rfl) ?_
  first | refine GT_splitNot (d := 7) rfl (fun h1 => ?_) (fun h1 => ?_) | refine GT_split (d := 7) rfl (fun h1 => ?_) (fun h1 => ?_) | refine GT_splitNotB (d := 7) rfl (fun h1 => ?_) (fun h1 => ?_) | refine GT_splitB (d := 7) rfl (fun h1 => ?_) (fun h1 => ?_)
  · skip
    refine GT_skip rfl rfl rfl rfl rfl (by decide) rfl rfl ?_
    refine GT_skip rfl rfl rfl rfl rfl (by decide) rfl rfl ?_
    refine GT_skip rfl rfl rfl rfl rfl (by decide) rfl rfl ?_
    refine GT_st rfl rfl rfl rfl (V_pick_t rfl rfl rfl) ?_
    refine GT_nil ?_
    refine GE_cond_t rfl ?_
    refine GE_seq ?_
    refine GE_slots (L' := []) trivial ?_
    refine GE_plain (.st 0 .nil) rfl ?_
    refine GT_st rfl rfl rfl rfl (V_assign rfl rfl) ?_
    refine GT_nil ?_
    refine GE_ret Tryd.func72 rfl (fun w hw => ⟨?_, hw.nil⟩)
    first | (rw [no (p := True) (by omega)]; done) | rw [no (p := True) (fun e => by have := nmB_iff.1 (e.2 k hkl); omega)]
  · skip
    refine GT_st_g rfl rfl rfl rfl rfl rfl rfl (V_move rfl rfl) ?_
    refine GT_st_g rfl rfl rfl rfl rfl rfl rfl (V_len_str rfl Tryd.underlying9 rfl) ?_
    refine GT_st_g rfl rfl rfl rfl rfl rfl rfl (V_gtr rfl rfl rfl) ?_
    refine GT_st rfl rfl rfl rfl (V_pick_f rfl rfl rfl) ?_
    refine GT_nil ?_
    first | refine GE_condNot rfl (fun q1 => ?_) (fun q1 => ?_) | refine GE_cond rfl (fun q1 => ?_) (fun q1 => ?_) | refine GE_condNotB rfl (fun q1 => ?_) (fun q1 => ?_) | refine GE_condB rfl (fun q1 => ?_) (fun q1 => ?_)
    · skip
      refine GE_seq ?_
      refine GE_slots (L' := []) trivial ?_
      refine GE_plain (.st 0 .nil) rfl ?_
      refine GT_st rfl rfl rfl rfl (V_assign rfl rfl) ?_
      refine GT_nil ?_
      refine GE_ret Tryd.func72 rfl (fun w hw => ⟨?_, hw.nil⟩)
      rw [no (p := True) (by omega)]
    · skip
      refine GE_skip ?_
      refine GE_seq ?_
      refine GE_seq ?_
      refine GE_slots (L' := [(0, _)]) ⟨rfl, trivial⟩ ?_
      refine GE_plain (.st 0 .nil) rfl ?_
      refine GT_st rfl rfl rfl rfl (V_assign rfl rfl) ?_
      refine GT_nil ?_
      refine GE_block ?_
      refine GE_to (GE_loop (ι := Nat) (fun k => s.size - k) (fun k => [(0, .string s), (3, I k)]) (fun k => []) (fun k => k ≤ s.size ∧ ∀ i, i < k → nmB (s.data.toList.getD i 0) = true) ?_ 0 ?_) ⟨rfl, rfl, trivial⟩ HS.nil
      · rintro k ⟨hk, hall⟩ ih
        refine GE_seq ?_
        refine GE_seq ?_
        refine GE_plain (.st 0 (.st 1 (.st 2 (.st 3 .nil)))) rfl ?_
        refine GT_st rfl rfl rfl rfl (V_move rfl rfl) ?_
        refine GT_st rfl rfl rfl rfl (V_move rfl rfl) ?_
        refine GT_st rfl rfl rfl rfl (V_len_str rfl Tryd.underlying9 rfl) ?_
        refine GT_st rfl rfl rfl rfl (V_lss rfl rfl rfl) ?_
        refine GT_nil ?_
        first | refine GE_condNot rfl (fun q2 => ?_) (fun q2 => ?_) | refine GE_cond rfl (fun q2 => ?_) (fun q2 => ?_) | refine GE_condNotB rfl (fun q2 => ?_) (fun q2 => ?_) | refine GE_condB rfl (fun q2 => ?_) (fun q2 => ?_)
        · have hkl : k < s.size := (by omega)
          refine GE_skip ?_
          refine GE_seq ?_
          refine GE_block ?_
          refine GE_seq ?_
          refine GE_slots (L' := [(0, _), (3, _)]) ⟨rfl, rfl, trivial⟩ ?_
          refine GE_plain (.st 0 (.st 1 (.st 2 (.st 3 (.st 4 (.st 5 (.st 6 (.st 7 (.st 8 (.st 9 (.st 10 (.st 11 (.st 12 (.st 13 (.st 14 (.st 15 (.st 16 (.st 17 (.st 18 (.st 19 (.st 20 (.st 21 (.st 22 (.st 23 .nil)))))))))))))))))))))))) rfl ?_
          refine GT_st rfl rfl rfl rfl (V_move rfl rfl) ?_
          refine GT_st rfl rfl rfl rfl (V_move rfl rfl) ?_
          refine GT_st rfl rfl rfl rfl (V_indexStr rfl rfl rfl Tryd.underlying9 rfl (by omega)) ?_
          refine GT_st rfl rfl rfl rfl (V_geq rfl rfl rfl) ?_
          refine GT_st rfl rfl rfl rfl (V_move rfl rfl) ?_
          first | refine GT_splitNot (d := 22) rfl (fun q3 => ?_) (fun q3 => ?_) | refine GT_split (d := 22) rfl (fun q3 => ?_) (fun q3 => ?_) | refine GT_splitNotB (d := 22) rfl (fun q3 => ?_) (fun q3 => ?_) | refine GT_splitB (d := 22) rfl (fun q3 => ?_) (fun q3 => ?_)
          · skip
            refine GT_st_g rfl rfl rfl rfl rfl rfl rfl (V_move rfl rfl) ?_
            refine GT_st_g rfl rfl rfl rfl rfl rfl rfl (V_move rfl rfl) ?_
            refine GT_st_g rfl rfl rfl rfl rfl rfl rfl (V_indexStr rfl rfl rfl Tryd.underlying9 rfl (by omega)) ?_
            refine GT_st_g rfl rfl rfl rfl rfl rfl rfl (V_leq rfl rfl rfl) ?_
            refine GT_st rfl rfl rfl rfl (V_pick_t rfl rfl rfl) ?_
            first | refine GT_st rfl rfl rfl rfl (V_not rfl rfl) ?_ | refine GT_st rfl rfl rfl rfl (V_notB rfl rfl) ?_
            refine GT_st rfl rfl rfl rfl (V_move rfl rfl) ?_
            first | refine GT_splitNot (d := 29) rfl (fun q4 => ?_) (fun q4 => ?_) | refine GT_split (d := 29) rfl (fun q4 => ?_) (fun q4 => ?_) | refine GT_splitNotB (d := 29) rfl (fun q4 => ?_) (fun q4 => ?_) | refine GT_splitB (d := 29) rfl (fun q4 => ?_) (fun q4 => ?_)
            · skip
              refine GT_st_g rfl rfl rfl rfl rfl rfl rfl (V_move rfl rfl) ?_
              refine GT_st_g rfl rfl rfl rfl rfl rfl rfl (V_move rfl rfl) ?_
              refine GT_st_g rfl rfl rfl rfl rfl rfl rfl (V_indexStr rfl rfl rfl Tryd.underlying9 rfl (by omega)) ?_
              refine GT_st_g rfl rfl rfl rfl rfl rfl rfl (V_geq rfl rfl rfl) ?_
              refine GT_st_g rfl rfl rfl rfl rfl rfl rfl (V_move rfl rfl) ?_
              first | refine GT_splitNot (d := 34) rfl (fun q5 => ?_) (fun q5 => ?_) | refine GT_split (d := 34) rfl (fun q5 => ?_) (fun q5 => ?_) | refine GT_splitNotB (d := 34) rfl (fun q5 => ?_) (fun q5 => ?_) | refine GT_splitB (d := 34) rfl (fun q5 => ?_) (fun q5 => ?_)
              · skip
                refine GT_st_g rfl rfl rfl rfl rfl rfl rfl (V_move rfl rfl) ?_
                refine GT_st_g rfl rfl rfl rfl rfl rfl rfl (V_move rfl rfl) ?_
                refine GT_st_g rfl rfl rfl rfl rfl rfl rfl (V_indexStr rfl rfl rfl Tryd.underlying9 rfl (by omega)) ?_
                refine GT_st_g rfl rfl rfl rfl rfl rfl rfl (V_leq rfl rfl rfl) ?_
                refine GT_st_g rfl rfl rfl rfl rfl rfl rfl (V_pick_t rfl rfl rfl) ?_
                first | refine GT_st_g rfl rfl rfl rfl rfl rfl rfl (V_not rfl rfl) ?_ | refine GT_st_g rfl rfl rfl rfl rfl rfl rfl (V_notB rfl rfl) ?_
                refine GT_st rfl rfl rfl rfl (V_pick_t rfl rfl rfl) ?_
                refine GT_nil ?_
                first | refine GE_condNot rfl (fun q6 => ?_) (fun q6 => ?_) | refine GE_cond rfl (fun q6 => ?_) (fun q6 => ?_) | refine GE_condNotB rfl (fun q6 => ?_) (fun q6 => ?_) | refine GE_condB rfl (fun q6 => ?_) (fun q6 => ?_)
                · skip
                  refine GE_seq ?_
                  refine GE_slots (L' := []) trivial ?_
                  refine GE_plain (.st 0 .nil) rfl ?_
                  refine GT_st rfl rfl rfl rfl (V_assign rfl rfl) ?_
                  refine GT_nil ?_
                  refine GE_ret Tryd.func72 rfl (fun w hw => ⟨?_, hw.nil⟩)
                  rw [no (p := True) (fun e => by have := nmB_iff.1 (e.2 k hkl); omega)]
                · skip
                  refine GE_skip ?_
                  refine GE_inBlock ?_
                  refine GE_slots (L' := [(0, _), (3, _), (23, _), (24, _), (25, _), (26, _), (30, _), (31, _), (32, _), (33, _), (34, _), (35, _), (36, _), (37, _), (38, _), (39, _), (40, _)]) ⟨rfl, rfl, rfl, rfl, rfl, rfl, rfl, rfl, rfl, rfl, rfl, rfl, rfl, rfl, rfl, rfl, rfl, trivial⟩ ?_
                  refine GE_plain (.st 0 (.st 1 (.ld 2 [] .nil))) rfl ?_
                  refine GT_st rfl rfl rfl rfl (V_move rfl rfl) ?_
                  refine GT_st rfl rfl rfl rfl (V_add rfl rfl rfl (wrap_i64 (by omega))) ?_
                  refine GT_ldv rfl rfl rfl rfl rfl (V_assign rfl rfl) (GR_nil) ?_
                  refine GT_nil ?_
                  exact GE_to (ih (k + 1) ⟨by omega, fun i hi => by rcases Nat.lt_or_ge i k with r | r; exact hall i r; rw [show i = k by omega]; exact nmB_iff.2 (by omega)⟩ (by omega)) ⟨rfl, rfl, trivial⟩ HS.nil
              · skip
                refine GT_skip rfl rfl rfl rfl rfl (by decide) rfl rfl ?_
                refine GT_skip rfl rfl rfl rfl rfl (by decide) rfl rfl ?_
                refine GT_skip rfl rfl rfl rfl rfl (by decide) rfl rfl ?_
                refine GT_skip rfl rfl rfl rfl rfl (by decide) rfl rfl ?_
                refine GT_st_g rfl rfl rfl rfl rfl rfl rfl (V_pick_f rfl rfl rfl) ?_
                first | refine GT_st_g rfl rfl rfl rfl rfl rfl rfl (V_not rfl rfl) ?_ | refine GT_st_g rfl rfl rfl rfl rfl rfl rfl (V_notB rfl rfl) ?_
                refine GT_st rfl rfl rfl rfl (V_pick_t rfl rfl rfl) ?_
                refine GT_nil ?_
                refine GE_cond_t rfl ?_
                refine GE_seq ?_
                refine GE_slots (L' := []) trivial ?_
                refine GE_plain (.st 0 .nil) rfl ?_
                refine GT_st rfl rfl rfl rfl (V_assign rfl rfl) ?_
                refine GT_nil ?_
                refine GE_ret Tryd.func72 rfl (fun w hw => ⟨?_, hw.nil⟩)
                first | (rw [no (p := True) (by omega)]; done) | rw [no (p := True) (fun e => by have := nmB_iff.1 (e.2 k hkl); omega)]
            · skip
              refine GT_skip rfl rfl rfl rfl rfl (by decide) rfl rfl ?_
              refine GT_skip rfl rfl rfl rfl rfl (by decide) rfl rfl ?_
              refine GT_skip rfl rfl rfl rfl rfl (by decide) rfl rfl ?_
              refine GT_skip rfl rfl rfl rfl rfl (by decide) rfl rfl ?_
              refine GT_skip rfl rfl rfl rfl rfl (by decide) rfl rfl ?_
              refine GT_skip rfl rfl rfl rfl rfl (by decide) rfl rfl ?_
              refine GT_skip rfl rfl rfl rfl rfl (by decide) rfl rfl ?_
              refine GT_skip rfl rfl rfl rfl rfl (by decide) rfl rfl ?_
              refine GT_skip rfl rfl rfl rfl rfl (by decide) rfl rfl ?_
              refine GT_skip rfl rfl rfl rfl rfl (by decide) rfl rfl ?_
              refine GT_skip rfl rfl rfl rfl rfl (by decide) rfl rfl ?_
              refine GT_st rfl rfl rfl rfl (V_pick_f rfl rfl rfl) ?_
              refine GT_nil ?_
              refine GE_cond_f rfl ?_
              refine GE_skip ?_
              refine GE_inBlock ?_
              refine GE_slots (L' := [(0, _), (3, _), (23, _), (24, _), (25, _), (26, _), (30, _), (31, _), (32, _), (33, _), (34, _), (35, _), (36, _), (37, _), (38, _), (39, _), (40, _)]) ⟨rfl, rfl, rfl, rfl, rfl, rfl, rfl, rfl, rfl, rfl, rfl, rfl, rfl, rfl, rfl, rfl, rfl, trivial⟩ ?_
              refine GE_plain (.st 0 (.st 1 (.ld 2 [] .nil))) rfl ?_
              refine GT_st rfl rfl rfl rfl (V_move rfl rfl) ?_
              refine GT_st rfl rfl rfl rfl (V_add rfl rfl rfl (wrap_i64 (by omega))) ?_
              refine GT_ldv rfl rfl rfl rfl rfl (V_assign rfl rfl) (GR_nil) ?_
              refine GT_nil ?_
              exact GE_to (ih (k + 1) ⟨by omega, fun i hi => by rcases Nat.lt_or_ge i k with r | r; exact hall i r; rw [show i = k by omega]; exact nmB_iff.2 (by omega)⟩ (by omega)) ⟨rfl, rfl, trivial⟩ HS.nil
          · skip
            refine GT_skip rfl rfl rfl rfl rfl (by decide) rfl rfl ?_
            refine GT_skip rfl rfl rfl rfl rfl (by decide) rfl rfl ?_
            refine GT_skip rfl rfl rfl rfl rfl (by decide) rfl rfl ?_
            refine GT_skip rfl rfl rfl rfl rfl (by decide) rfl rfl ?_
            refine GT_st rfl rfl rfl rfl (V_pick_f rfl rfl rfl) ?_
            first | refine GT_st rfl rfl rfl rfl (V_not rfl rfl) ?_ | refine GT_st rfl rfl rfl rfl (V_notB rfl rfl) ?_
            refine GT_st rfl rfl rfl rfl (V_move rfl rfl) ?_
            refine GT_st_g rfl rfl rfl rfl rfl rfl rfl (V_move rfl rfl) ?_
            refine GT_st_g rfl rfl rfl rfl rfl rfl rfl (V_move rfl rfl) ?_
            refine GT_st_g rfl rfl rfl rfl rfl rfl rfl (V_indexStr rfl rfl rfl Tryd.underlying9 rfl (by omega)) ?_
            refine GT_st_g rfl rfl rfl rfl rfl rfl rfl (V_geq rfl rfl rfl) ?_
            refine GT_st_g rfl rfl rfl rfl rfl rfl rfl (V_move rfl rfl) ?_
            first | refine GT_splitNot (d := 34) rfl (fun q5 => ?_) (fun q5 => ?_) | refine GT_split (d := 34) rfl (fun q5 => ?_) (fun q5 => ?_) | refine GT_splitNotB (d := 34) rfl (fun q5 => ?_) (fun q5 => ?_) | refine GT_splitB (d := 34) rfl (fun q5 => ?_) (fun q5 => ?_)
            · skip
              refine GT_st_g rfl rfl rfl rfl rfl rfl rfl (V_move rfl rfl) ?_
              refine GT_st_g rfl rfl rfl rfl rfl rfl rfl (V_move rfl rfl) ?_
              refine GT_st_g rfl rfl rfl rfl rfl rfl rfl (V_indexStr rfl rfl rfl Tryd.underlying9 rfl (by omega)) ?_
              refine GT_st_g rfl rfl rfl rfl rfl rfl rfl (V_leq rfl rfl rfl) ?_
              refine GT_st_g rfl rfl rfl rfl rfl rfl rfl (V_pick_t rfl rfl rfl) ?_
              first | refine GT_st_g rfl rfl rfl rfl rfl rfl rfl (V_not rfl rfl) ?_ | refine GT_st_g rfl rfl rfl rfl rfl rfl rfl (V_notB rfl rfl) ?_
              refine GT_st rfl rfl rfl rfl (V_pick_t rfl rfl rfl) ?_
              refine GT_nil ?_
              first | refine GE_condNot rfl (fun q6 => ?_) (fun q6 => ?_) | refine GE_cond rfl (fun q6 => ?_) (fun q6 => ?_) | refine GE_condNotB rfl (fun q6 => ?_) (fun q6 => ?_) | refine GE_condB rfl (fun q6 => ?_) (fun q6 => ?_)
              · skip
                refine GE_seq ?_
                refine GE_slots (L' := []) trivial ?_
                refine GE_plain (.st 0 .nil) rfl ?_
                refine GT_st rfl rfl rfl rfl (V_assign rfl rfl) ?_
                refine GT_nil ?_
                refine GE_ret Tryd.func72 rfl (fun w hw => ⟨?_, hw.nil⟩)
                rw [no (p := True) (fun e => by have := nmB_iff.1 (e.2 k hkl); omega)]
              · skip
                refine GE_skip ?_
                refine GE_inBlock ?_
                refine GE_slots (L' := [(0, _), (3, _), (23, _), (24, _), (25, _), (26, _), (30, _), (31, _), (32, _), (33, _), (34, _), (35, _), (36, _), (37, _), (38, _), (39, _), (40, _)]) ⟨rfl, rfl, rfl, rfl, rfl, rfl, rfl, rfl, rfl, rfl, rfl, rfl, rfl, rfl, rfl, rfl, rfl, trivial⟩ ?_
                refine GE_plain (.st 0 (.st 1 (.ld 2 [] .nil))) rfl ?_
                refine GT_st rfl rfl rfl rfl (V_move rfl rfl) ?_
                refine GT_st rfl rfl rfl rfl (V_add rfl rfl rfl (wrap_i64 (by omega))) ?_
                refine GT_ldv rfl rfl rfl rfl rfl (V_assign rfl rfl) (GR_nil) ?_
                refine GT_nil ?_
                exact GE_to (ih (k + 1) ⟨by omega, fun i hi => by rcases Nat.lt_or_ge i k with r | r; exact hall i r; rw [show i = k by omega]; exact nmB_iff.2 (by omega)⟩ (by omega)) ⟨rfl, rfl, trivial⟩ HS.nil
            · skip
              refine GT_skip rfl rfl rfl rfl rfl (by decide) rfl rfl ?_
              refine GT_skip rfl rfl rfl rfl rfl (by decide) rfl rfl ?_
              refine GT_skip rfl rfl rfl rfl rfl (by decide) rfl rfl ?_
              refine GT_skip rfl rfl rfl rfl rfl (by decide) rfl rfl ?_
              refine GT_st_g rfl rfl rfl rfl rfl rfl rfl (V_pick_f rfl rfl rfl) ?_
              first | refine GT_st_g rfl rfl rfl rfl rfl rfl rfl (V_not rfl rfl) ?_ | refine GT_st_g rfl rfl rfl rfl rfl rfl rfl (V_notB rfl rfl) ?_
              refine GT_st rfl rfl rfl rfl (V_pick_t rfl rfl rfl) ?_
              refine GT_nil ?_
              refine GE_cond_t rfl ?_
              refine GE_seq ?_
              refine GE_slots (L' := []) trivial ?_
              refine GE_plain (.st 0 .nil) rfl ?_
              refine GT_st rfl rfl rfl rfl (V_assign rfl rfl) ?_
              refine GT_nil ?_
              refine GE_ret Tryd.func72 rfl (fun w hw => ⟨?_, hw.nil⟩)
              first | (rw [no (p := True) (by omega)]; done) | rw [no (p := True) (fun e => by have := nmB_iff.1 (e.2 k hkl); omega)]
        · skip
          refine GE_exit rfl ?_
          refine GE_seq ?_
          refine GE_slots (L' := []) trivial ?_
          refine GE_plain (.st 0 .nil) rfl ?_
          refine GT_st rfl rfl rfl rfl (V_assign rfl rfl) ?_
          refine GT_nil ?_
          refine GE_ret Tryd.func72 rfl (fun w hw => ⟨?_, hw.nil⟩)
          rw [isNm_iff.2 ⟨⟨by omega, by omega⟩, fun i hi => hall i (by omega)⟩]
      · exact ⟨Nat.zero_le _, fun i hi => absurd hi (Nat.not_lt_zero _)⟩
theorem C_rtake {t : Tk} (h : RdL w 2 eSam t.A t.data) (hs : ∀ x ∈ t.data, x.wf) : Con0 Tryd.prog 61 [.agg #[.string t.name, .slice t.A t.data.length t.c]] w (I (tErr t)) := by
  refine Ret_of (vs := [_]) hm none' Tryd.func61 rfl Tryd.ntmps61 rfl ?_
  dsimp only [slotsOf]
  refine GE_seq ?_
  refine GE_plain (.ld 0 [] (.st 1 .nil)) rfl ?_
  refine GT_box (z := [_, _]) rfl rfl rfl rfl rfl rfl rfl (fun _ => GR_nil) (fun b1 => ?_)
  refine GT_st rfl rfl rfl rfl (V_assign rfl rfl) ?_
  refine GT_nil ?_
  refine GE_seq ?_
  refine GE_seq ?_
  refine GE_plain (.st 0 (.st 1 (.st 2 (.st 3 .nil)))) rfl ?_
  first | refine GT_st rfl rfl rfl rfl (V_field rfl rfl fo_27_1) ?_ | refine GT_st rfl rfl rfl rfl (V_fieldA rfl rfl fo_27_1) ?_
  refine GT_st rfl rfl rfl rfl (V_load rfl rfl ag_22 (CellAt.item rfl)) ?_
  refine GT_st rfl rfl rfl rfl (V_len rfl Tryd.underlying22 rfl) ?_
  refine GT_st rfl rfl rfl rfl (V_gtr rfl rfl rfl) ?_
  refine GT_nil ?_
  first | refine GE_condNot rfl (fun q1 => ?_) (fun q1 => ?_) | refine GE_cond rfl (fun q1 => ?_) (fun q1 => ?_) | refine GE_condNotB rfl (fun q1 => ?_) (fun q1 => ?_) | refine GE_condB rfl (fun q1 => ?_) (fun q1 => ?_)
  · skip
    refine GE_seq ?_
    refine GE_slots (L' := []) trivial ?_
    refine GE_plain (.st 0 .nil) rfl ?_
    refine GT_st rfl rfl rfl rfl (V_assign rfl rfl) ?_
    refine GT_nil ?_
    refine GE_ret Tryd.func61 rfl (fun w hw => ⟨?_, hw.nil⟩)
    rw [tErr, if_pos (by omega)]
  · skip
    refine GE_skip ?_
    refine GE_seq ?_
    refine GE_seq ?_
    refine GE_slots (L' := [(1, _)]) ⟨rfl, trivial⟩ ?_
    refine GE_plain (.st 0 (.st 1 (.ld 2 [] (.st 3 (.st 4 (.st 5 (.st 6 (.st 7 (.st 8 (.st 9 .nil)))))))))) rfl ?_
    first | refine GT_st rfl rfl rfl rfl (V_field rfl rfl fo_27_0) ?_ | refine GT_st rfl rfl rfl rfl (V_fieldA rfl rfl fo_27_0) ?_
    refine GT_st rfl rfl rfl rfl (V_load rfl rfl ag_9 (CellAt.item rfl)) ?_
    refine GT_call0 rfl rfl rfl rfl rfl rfl rfl rfl rn_72 (fun w hw => C_rIsName) (GR_nil) ?_
    first | refine GT_st rfl rfl rfl rfl (V_not rfl rfl) ?_ | refine GT_st rfl rfl rfl rfl (V_notB rfl rfl) ?_
    refine GT_st rfl rfl rfl rfl (V_move rfl rfl) ?_
    first | refine GT_splitNot (d := 11) rfl (fun q2 => ?_) (fun q2 => ?_) | refine GT_split (d := 11) rfl (fun q2 => ?_) (fun q2 => ?_) | refine GT_splitNotB (d := 11) rfl (fun q2 => ?_) (fun q2 => ?_) | refine GT_splitB (d := 11) rfl (fun q2 => ?_) (fun q2 => ?_)
    · skip
      refine GT_skip rfl rfl rfl rfl rfl (by decide) rfl rfl ?_
      refine GT_skip rfl rfl rfl rfl rfl (by decide) rfl rfl ?_
      refine GT_skip rfl rfl rfl rfl rfl (by decide) rfl rfl ?_
      refine GT_skip rfl rfl rfl rfl rfl (by decide) rfl rfl ?_
      refine GT_st rfl rfl rfl rfl (V_pick_t rfl rfl rfl) ?_
      refine GT_nil ?_
      refine GE_cond_t rfl ?_
      refine GE_seq ?_
      refine GE_slots (L' := []) trivial ?_
      refine GE_plain (.st 0 .nil) rfl ?_
      refine GT_st rfl rfl rfl rfl (V_assign rfl rfl) ?_
      refine GT_nil ?_
      refine GE_ret Tryd.func61 rfl (fun w hw => ⟨?_, hw.nil⟩)
      first | (have hn : ¬ 4096 < t.data.length := (by omega); have hz : t.data.length ≠ 0 := (by omega); refine congrArg I ?_; unfold sErr tErr; rw [if_neg hn, if_neg hn, q2]; simp [hz]; done) | (refine congrArg I (Eq.symm ?_); rw [tErr, if_neg (by omega), if_neg]; rw [q2]; simp)
    · skip
      first | refine GT_st_g rfl rfl rfl rfl rfl rfl rfl (V_field rfl rfl fo_27_1) ?_ | refine GT_st_g rfl rfl rfl rfl rfl rfl rfl (V_fieldA rfl rfl fo_27_1) ?_
      refine GT_st_g rfl rfl rfl rfl rfl rfl rfl (V_load rfl rfl ag_22 (CellAt.item rfl)) ?_
      refine GT_st_g rfl rfl rfl rfl rfl rfl rfl (V_len rfl Tryd.underlying22 rfl) ?_
      refine GT_st_g rfl rfl rfl rfl rfl rfl rfl (V_eql rfl rfl rfl) ?_
      refine GT_st rfl rfl rfl rfl (V_pick_f rfl rfl rfl) ?_
      refine GT_nil ?_
      first | refine GE_condNot rfl (fun q3 => ?_) (fun q3 => ?_) | refine GE_cond rfl (fun q3 => ?_) (fun q3 => ?_) | refine GE_condNotB rfl (fun q3 => ?_) (fun q3 => ?_) | refine GE_condB rfl (fun q3 => ?_) (fun q3 => ?_)
      · skip
        refine GE_seq ?_
        refine GE_slots (L' := []) trivial ?_
        refine GE_plain (.st 0 .nil) rfl ?_
        refine GT_st rfl rfl rfl rfl (V_assign rfl rfl) ?_
        refine GT_nil ?_
        refine GE_ret Tryd.func61 rfl (fun w hw => ⟨?_, hw.nil⟩)
        refine congrArg I (Eq.symm ?_); rw [tErr, if_neg (by omega), if_neg]; rw [Bool.and_eq_true, Bool.and_eq_true, decide_eq_true_iff]; rintro ⟨⟨_, hh⟩, _⟩; omega
      · skip
        refine GE_skip ?_
        refine GE_seq ?_
        refine GE_slots (L' := [(1, _)]) ⟨rfl, trivial⟩ ?_
        refine GE_plain (.st 0 (.st 1 (.ld 2 [] (.st 3 .nil)))) rfl ?_
        first | refine GT_st rfl rfl rfl rfl (V_field rfl rfl fo_27_1) ?_ | refine GT_st rfl rfl rfl rfl (V_fieldA rfl rfl fo_27_1) ?_
        refine GT_st rfl rfl rfl rfl (V_load rfl rfl ag_22 (CellAt.item rfl)) ?_
        refine GT_call0 rfl rfl rfl rfl rfl rfl rfl rfl rn_15 (fun w hw => C_rCheckSamples (h.sh hw) hs) (GR_nil) ?_
        refine GT_st rfl rfl rfl rfl (V_assign rfl rfl) ?_
        refine GT_nil ?_
        refine GE_ret Tryd.func61 rfl (fun w hw => ⟨?_, hw.nil⟩)
        first | (have hn : ¬ 4096 < t.data.length := (by omega); have hz : t.data.length ≠ 0 := (by omega); refine congrArg I ?_; unfold sErr tErr; rw [if_neg hn, if_neg hn, q2]; simp [hz]; done) | (refine congrArg I (Eq.symm ?_); rw [tErr, if_neg (by omega), if_neg]; rw [q2]; simp)
set_option maxRecDepth 10000 in
theorem C_rCheckTakes {l : List Tk} (h : Tks w A l) : Con0 Tryd.prog 38 [.slice A l.length c] w (I (lErr l)) := by
  refine Ret_of (vs := [_]) hm none' Tryd.func38 rfl Tryd.ntmps38 rfl ?_
  dsimp only [slotsOf]
  refine GE_seq ?_
  refine GE_plain (.st 0 .nil) rfl ?_
  refine GT_st rfl rfl rfl rfl (V_assign rfl rfl) ?_
  refine GT_nil ?_
  refine GE_seq ?_
  refine GE_seq ?_
  refine GE_plain (.st 0 (.st 1 (.st 2 (.st 3 (.st 4 (.st 5 (.st 6 (.st 7 .nil)))))))) rfl ?_
  refine GT_st rfl rfl rfl rfl (V_move rfl rfl) ?_
  refine GT_st rfl rfl rfl rfl (V_len rfl Tryd.underlying28 rfl) ?_
  refine GT_st rfl rfl rfl rfl (V_lss rfl rfl rfl) ?_
  refine GT_st rfl rfl rfl rfl (V_move rfl rfl) ?_
  first | refine GT_splitNot (d := 10) rfl (fun h1 => ?_) (fun h1 => ?_) | refine GT_split (d := 10) rfl (fun h1 => ?_) (fun h1 => ?_) | refine GT_splitNotB (d := 10) rfl (fun h1 => ?_) (fun h1 => ?_) | refine GT_splitB (d := 10) rfl (fun h1 => ?_) (fun h1 => ?_)
  · skip
    refine GT_skip rfl rfl rfl rfl rfl (by decide) rfl rfl ?_
    refine GT_skip rfl rfl rfl rfl rfl (by decide) rfl rfl ?_
    refine GT_skip rfl rfl rfl rfl rfl (by decide) rfl rfl ?_
    refine GT_st rfl rfl rfl rfl (V_pick_t rfl rfl rfl) ?_
    refine GT_nil ?_
    refine GE_cond_t rfl ?_
    refine GE_seq ?_
    refine GE_slots (L' := []) trivial ?_
    refine GE_plain (.st 0 .nil) rfl ?_
    refine GT_st rfl rfl rfl rfl (V_assign rfl rfl) ?_
    refine GT_nil ?_
    refine GE_ret Tryd.func38 rfl (fun w hw => ⟨?_, hw.nil⟩)
    rw [lErr, if_pos (by omega)]
  · skip
    refine GT_st_g rfl rfl rfl rfl rfl rfl rfl (V_move rfl rfl) ?_
    refine GT_st_g rfl rfl rfl rfl rfl rfl rfl (V_len rfl Tryd.underlying28 rfl) ?_
    refine GT_st_g rfl rfl rfl rfl rfl rfl rfl (V_gtr rfl rfl rfl) ?_
    refine GT_st rfl rfl rfl rfl (V_pick_f rfl rfl rfl) ?_
    refine GT_nil ?_
    first | refine GE_condNot rfl (fun q1 => ?_) (fun q1 => ?_) | refine GE_cond rfl (fun q1 => ?_) (fun q1 => ?_) | refine GE_condNotB rfl (fun q1 => ?_) (fun q1 => ?_) | refine GE_condB rfl (fun q1 => ?_) (fun q1 => ?_)
    · skip
      refine GE_seq ?_
      refine GE_slots (L' := []) trivial ?_
      refine GE_plain (.st 0 .nil) rfl ?_
      refine GT_st rfl rfl rfl rfl (V_assign rfl rfl) ?_
      refine GT_nil ?_
      refine GE_ret Tryd.func38 rfl (fun w hw => ⟨?_, hw.nil⟩)
      rw [lErr, if_pos (by omega)]
    · skip
      refine GE_skip ?_
      refine GE_seq ?_
      refine GE_seq ?_
      refine GE_slots (L' := [(0, _)]) ⟨rfl, trivial⟩ ?_
      refine GE_plain (.st 0 .nil) rfl ?_
      refine GT_st rfl rfl rfl rfl (V_assign rfl rfl) ?_
      refine GT_nil ?_
      refine GE_block ?_
      refine GE_to (GE_loop (ι := Nat) (fun k => l.length - k) (fun k => [(0, .slice A l.length c), (3, I k)]) (fun k => []) (fun k => k ≤ l.length ∧ ∀ i, i < k → (l.getD i default).data.length ≤ 4096) ?_ 0 ?_) ⟨rfl, rfl, trivial⟩ HS.nil
      · rintro k ⟨hk, h6⟩ ih
        refine GE_seq ?_
        refine GE_seq ?_
        refine GE_plain (.st 0 (.st 1 (.st 2 (.st 3 .nil)))) rfl ?_
        refine GT_st rfl rfl rfl rfl (V_move rfl rfl) ?_
        refine GT_st rfl rfl rfl rfl (V_move rfl rfl) ?_
        refine GT_st rfl rfl rfl rfl (V_len rfl Tryd.underlying28 rfl) ?_
        refine GT_st rfl rfl rfl rfl (V_lss rfl rfl rfl) ?_
        refine GT_nil ?_
        first | refine GE_condNot rfl (fun q2 => ?_) (fun q2 => ?_) | refine GE_cond rfl (fun q2 => ?_) (fun q2 => ?_) | refine GE_condNotB rfl (fun q2 => ?_) (fun q2 => ?_) | refine GE_condB rfl (fun q2 => ?_) (fun q2 => ?_)
        · have hkl : k < l.length := (by omega)
          refine GE_skip ?_
          refine GE_seq ?_
          refine GE_block ?_
          refine GE_seq ?_
          refine GE_slots (L' := [(0, _), (3, _)]) ⟨rfl, rfl, trivial⟩ ?_
          refine GE_plain (.st 0 (.st 1 (.st 2 (.st 3 (.st 4 (.st 5 (.st 6 .nil))))))) rfl ?_
          refine GT_st rfl rfl rfl rfl (V_move rfl rfl) ?_
          refine GT_st rfl rfl rfl rfl (V_move rfl rfl) ?_
          refine GT_st rfl rfl rfl rfl (V_index rfl rfl rfl Tryd.underlying28 sz_27 (k := k) rfl hkl (h.1.isSome hkl)) ?_
          first | refine GT_st rfl rfl rfl rfl (V_field rfl rfl fo_27_1) ?_ | refine GT_st rfl rfl rfl rfl (V_fieldA rfl rfl fo_27_1) ?_
          refine GT_st rfl rfl rfl rfl (V_load rfl rfl ag_22 (h.1.at1 noM hkl rfl)) ?_
          refine GT_st rfl rfl rfl rfl (V_len rfl Tryd.underlying22 rfl) ?_
          refine GT_st rfl rfl rfl rfl (V_gtr rfl rfl rfl) ?_
          refine GT_nil ?_
          first | refine GE_condNot rfl (fun q3 => ?_) (fun q3 => ?_) | refine GE_cond rfl (fun q3 => ?_) (fun q3 => ?_) | refine GE_condNotB rfl (fun q3 => ?_) (fun q3 => ?_) | refine GE_condB rfl (fun q3 => ?_) (fun q3 => ?_)
          · skip
            refine GE_seq ?_
            refine GE_slots (L' := []) trivial ?_
            refine GE_plain (.st 0 .nil) rfl ?_
            refine GT_st rfl rfl rfl rfl (V_assign rfl rfl) ?_
            refine GT_nil ?_
            refine GE_ret Tryd.func38 rfl (fun w hw => ⟨?_, hw.nil⟩)
            rw [lErr_six hkl (tErr_six.2 (by omega))]
          · skip
            refine GE_skip ?_
            refine GE_inBlock ?_
            refine GE_slots (L' := [(0, _), (3, _)]) ⟨rfl, rfl, trivial⟩ ?_
            refine GE_plain (.st 0 (.st 1 (.ld 2 [] .nil))) rfl ?_
            refine GT_st rfl rfl rfl rfl (V_move rfl rfl) ?_
            refine GT_st rfl rfl rfl rfl (V_add rfl rfl rfl (wrap_i64 (by omega))) ?_
            refine GT_ldv rfl rfl rfl rfl rfl (V_assign rfl rfl) (GR_nil) ?_
            refine GT_nil ?_
            exact GE_to (ih (k + 1) ⟨by omega, fun i hi => by rcases Nat.lt_or_ge i k with r | r; exact h6 i r; rw [show i = k by omega]; omega⟩ (by omega)) ⟨rfl, rfl, trivial⟩ HS.nil
        · have h6a : ∀ i, i < l.length → (l.getD i default).data.length ≤ 4096 := (fun i hi => h6 i (by omega))
          refine GE_exit rfl ?_
          refine GE_seq ?_
          refine GE_seq ?_
          refine GE_slots (L' := [(0, _)]) ⟨rfl, trivial⟩ ?_
          refine GE_plain (.st 0 .nil) rfl ?_
          refine GT_st rfl rfl rfl rfl (V_assign rfl rfl) ?_
          refine GT_nil ?_
          refine GE_block ?_
          refine GE_to (GE_loop (ι := Nat) (fun j => l.length - j) (fun j => [(0, .slice A l.length c), (4, I j)]) (fun j => []) (fun j => j ≤ l.length ∧ ∀ i, i < j → tErr (l.getD i default) = 0) ?_ 0 ?_) ⟨rfl, rfl, trivial⟩ HS.nil
          · rintro j ⟨hj, h0⟩ ih2
            refine GE_seq ?_
            refine GE_seq ?_
            refine GE_plain (.st 0 (.st 1 (.st 2 (.st 3 .nil)))) rfl ?_
            refine GT_st rfl rfl rfl rfl (V_move rfl rfl) ?_
            refine GT_st rfl rfl rfl rfl (V_move rfl rfl) ?_
            refine GT_st rfl rfl rfl rfl (V_len rfl Tryd.underlying28 rfl) ?_
            refine GT_st rfl rfl rfl rfl (V_lss rfl rfl rfl) ?_
            refine GT_nil ?_
            first | refine GE_condNot rfl (fun q4 => ?_) (fun q4 => ?_) | refine GE_cond rfl (fun q4 => ?_) (fun q4 => ?_) | refine GE_condNotB rfl (fun q4 => ?_) (fun q4 => ?_) | refine GE_condB rfl (fun q4 => ?_) (fun q4 => ?_)
            · have hjl : j < l.length := (by omega); have ht := h.2 _ (getD_mem hjl)
              refine GE_skip ?_
              refine GE_seq ?_
              refine GE_block ?_
              refine GE_seq ?_
              refine GE_slots (L' := [(0, _), (4, _)]) ⟨rfl, rfl, trivial⟩ ?_
              refine GE_plain (.st 0 (.st 1 (.st 2 (.st 3 (.ld 4 [] (.st 5 .nil)))))) rfl ?_
              refine GT_st rfl rfl rfl rfl (V_move rfl rfl) ?_
              refine GT_st rfl rfl rfl rfl (V_move rfl rfl) ?_
              refine GT_st rfl rfl rfl rfl (V_index rfl rfl rfl Tryd.underlying28 sz_27 (k := j) rfl hjl (h.1.isSome hjl)) ?_
              refine GT_st rfl rfl rfl rfl (V_loadN (vs := [_, _]) rfl rfl ag_27 sz_27 rfl (h.1.ats noM hjl)) ?_
              refine GT_call0 rfl rfl rfl rfl rfl rfl rfl rfl rn_61 (fun w hw => C_rtake (t := l.getD j default) (ht.1.sh hw) ht.2.2.2) (GR_nil) ?_
              refine GT_st rfl rfl rfl rfl (V_neq rfl rfl rfl) ?_
              refine GT_nil ?_
              first | refine GE_condNot rfl (fun q5 => ?_) (fun q5 => ?_) | refine GE_cond rfl (fun q5 => ?_) (fun q5 => ?_) | refine GE_condNotB rfl (fun q5 => ?_) (fun q5 => ?_) | refine GE_condB rfl (fun q5 => ?_) (fun q5 => ?_)
              · skip
                refine GE_seq ?_
                refine GE_slots (L' := []) trivial ?_
                refine GE_plain (.st 0 .nil) rfl ?_
                refine GT_st rfl rfl rfl rfl (V_assign rfl rfl) ?_
                refine GT_nil ?_
                refine GE_ret Tryd.func38 rfl (fun w hw => ⟨?_, hw.nil⟩)
                rw [lErr_two (by omega) h6a hjl (by omega)]
              · skip
                refine GE_skip ?_
                refine GE_inBlock ?_
                refine GE_slots (L' := [(0, _), (4, _)]) ⟨rfl, rfl, trivial⟩ ?_
                refine GE_plain (.st 0 (.st 1 (.ld 2 [] .nil))) rfl ?_
                refine GT_st rfl rfl rfl rfl (V_move rfl rfl) ?_
                refine GT_st rfl rfl rfl rfl (V_add rfl rfl rfl (wrap_i64 (by omega))) ?_
                refine GT_ldv rfl rfl rfl rfl rfl (V_assign rfl rfl) (GR_nil) ?_
                refine GT_nil ?_
                exact GE_to (ih2 (j + 1) ⟨by omega, fun i hi => by rcases Nat.lt_or_ge i j with r | r; exact h0 i r; rw [show i = j by omega]; omega⟩ (by omega)) ⟨rfl, rfl, trivial⟩ HS.nil
            · have h0a : ∀ i, i < l.length → tErr (l.getD i default) = 0 := (fun i hi => h0 i (by omega)); have hlr := lErr_rest (by omega) h0a
              refine GE_exit rfl ?_
              refine GE_seq ?_
              refine GE_seq ?_
              refine GE_slots (L' := [(0, _)]) ⟨rfl, trivial⟩ ?_
              refine GE_plain (.st 0 .nil) rfl ?_
              refine GT_st rfl rfl rfl rfl (V_assign rfl rfl) ?_
              refine GT_nil ?_
              refine GE_block ?_
              refine GE_to (GE_loop (ι := Nat) (fun a => l.length - a) (fun a => [(0, .slice A l.length c), (5, I a)]) (fun a => []) (fun a => a ≤ l.length ∧ ∀ i j, i < a → j < i → (l.getD i default).name ≠ (l.getD j default).name) ?_ 0 ?_) ⟨rfl, rfl, trivial⟩ HS.nil
              · rintro a ⟨ha, hap⟩ ih3
                refine GE_seq ?_
                refine GE_seq ?_
                refine GE_plain (.st 0 (.st 1 (.st 2 (.st 3 .nil)))) rfl ?_
                refine GT_st rfl rfl rfl rfl (V_move rfl rfl) ?_
                refine GT_st rfl rfl rfl rfl (V_move rfl rfl) ?_
                refine GT_st rfl rfl rfl rfl (V_len rfl Tryd.underlying28 rfl) ?_
                refine GT_st rfl rfl rfl rfl (V_lss rfl rfl rfl) ?_
                refine GT_nil ?_
                first | refine GE_condNot rfl (fun q6 => ?_) (fun q6 => ?_) | refine GE_cond rfl (fun q6 => ?_) (fun q6 => ?_) | refine GE_condNotB rfl (fun q6 => ?_) (fun q6 => ?_) | refine GE_condB rfl (fun q6 => ?_) (fun q6 => ?_)
                · have hal : a < l.length := (by omega)
                  refine GE_skip ?_
                  refine GE_seq ?_
                  refine GE_block ?_
                  refine GE_seq ?_
                  refine GE_slots (L' := [(0, _), (5, _)]) ⟨rfl, rfl, trivial⟩ ?_
                  refine GE_plain (.st 0 .nil) rfl ?_
                  refine GT_st rfl rfl rfl rfl (V_assign rfl rfl) ?_
                  refine GT_nil ?_
                  refine GE_block ?_
                  refine GE_to (GE_loop (ι := Nat) (fun b => a - b) (fun b => [(0, .slice A l.length c), (5, I a), (6, I b)]) (fun b => []) (fun b => b ≤ a ∧ ∀ j, j < b → (l.getD a default).name ≠ (l.getD j default).name) ?_ 0 ?_) ⟨rfl, rfl, rfl, trivial⟩ HS.nil
                  · rintro b ⟨hb, hbp⟩ ih4
                    refine GE_seq ?_
                    refine GE_seq ?_
                    refine GE_plain (.st 0 (.st 1 (.st 2 .nil))) rfl ?_
                    refine GT_st rfl rfl rfl rfl (V_move rfl rfl) ?_
                    refine GT_st rfl rfl rfl rfl (V_move rfl rfl) ?_
                    refine GT_st rfl rfl rfl rfl (V_lss rfl rfl rfl) ?_
                    refine GT_nil ?_
                    first | refine GE_condNot rfl (fun q7 => ?_) (fun q7 => ?_) | refine GE_cond rfl (fun q7 => ?_) (fun q7 => ?_) | refine GE_condNotB rfl (fun q7 => ?_) (fun q7 => ?_) | refine GE_condB rfl (fun q7 => ?_) (fun q7 => ?_)
                    · have hbl : b < l.length := (by omega)
                      refine GE_skip ?_
                      refine GE_seq ?_
                      refine GE_block ?_
                      refine GE_seq ?_
                      refine GE_drawn (.st 0 (.st 1 (.st 2 (.st 3 (.st 4 (.st 5 (.st 6 (.st 7 (.st 8 (.st 9 (.st 10 .nil))))))))))) [] (by decide +kernel) ?_
                      refine GT_st rfl rfl rfl rfl (V_move rfl rfl) ?_
                      refine GT_st rfl rfl rfl rfl (V_move rfl rfl) ?_
                      refine GT_st rfl rfl rfl rfl (V_index rfl rfl rfl Tryd.underlying28 sz_27 (k := a) rfl hal (h.1.isSome hal)) ?_
                      first | refine GT_st rfl rfl rfl rfl (V_field rfl rfl fo_27_0) ?_ | refine GT_st rfl rfl rfl rfl (V_fieldA rfl rfl fo_27_0) ?_
                      refine GT_st rfl rfl rfl rfl (V_load rfl rfl ag_9 (h.1.at0 noM hal rfl)) ?_
                      refine GT_st rfl rfl rfl rfl (V_move rfl rfl) ?_
                      refine GT_st rfl rfl rfl rfl (V_move rfl rfl) ?_
                      refine GT_st rfl rfl rfl rfl (V_index rfl rfl rfl Tryd.underlying28 sz_27 (k := b) rfl hbl (h.1.isSome hbl)) ?_
                      first | refine GT_st rfl rfl rfl rfl (V_field rfl rfl fo_27_0) ?_ | refine GT_st rfl rfl rfl rfl (V_fieldA rfl rfl fo_27_0) ?_
                      refine GT_st rfl rfl rfl rfl (V_load rfl rfl ag_9 (h.1.at0 noM hbl rfl)) ?_
                      refine GT_st rfl rfl rfl rfl (V_eqlStr rfl rfl rfl) ?_
                      refine GT_nil ?_
                      first | refine GE_condNot rfl (fun q8 => ?_) (fun q8 => ?_) | refine GE_cond rfl (fun q8 => ?_) (fun q8 => ?_) | refine GE_condNotB rfl (fun q8 => ?_) (fun q8 => ?_) | refine GE_condB rfl (fun q8 => ?_) (fun q8 => ?_)
                      · skip
                        refine GE_seq ?_
                        refine GE_slots (L' := []) trivial ?_
                        refine GE_plain (.st 0 .nil) rfl ?_
                        refine GT_st rfl rfl rfl rfl (V_assign rfl rfl) ?_
                        refine GT_nil ?_
                        refine GE_ret Tryd.func38 rfl (fun w hw => ⟨?_, hw.nil⟩)
                        rw [hlr, if_neg (names_same hal (by omega) q8)]
                      · skip
                        refine GE_skip ?_
                        refine GE_inBlock ?_
                        refine GE_slots (L' := [(0, _), (5, _), (6, _)]) ⟨rfl, rfl, rfl, trivial⟩ ?_
                        refine GE_plain (.st 0 (.st 1 (.ld 2 [] .nil))) rfl ?_
                        refine GT_st rfl rfl rfl rfl (V_move rfl rfl) ?_
                        refine GT_st rfl rfl rfl rfl (V_add rfl rfl rfl (wrap_i64 (by omega))) ?_
                        refine GT_ldv rfl rfl rfl rfl rfl (V_assign rfl rfl) (GR_nil) ?_
                        refine GT_nil ?_
                        exact GE_to (ih4 (b + 1) ⟨by omega, fun j hj => by rcases Nat.lt_or_ge j b with r | r; exact hbp j r; obtain rfl : j = b := (by omega); exact q8⟩ (by omega)) ⟨rfl, rfl, rfl, trivial⟩ HS.nil
                    · skip
                      refine GE_exit rfl ?_
                      refine GE_inBlock ?_
                      refine GE_slots (L' := [(0, _), (5, _)]) ⟨rfl, rfl, trivial⟩ ?_
                      refine GE_plain (.st 0 (.st 1 (.ld 2 [] .nil))) rfl ?_
                      refine GT_st rfl rfl rfl rfl (V_move rfl rfl) ?_
                      refine GT_st rfl rfl rfl rfl (V_add rfl rfl rfl (wrap_i64 (by omega))) ?_
                      refine GT_ldv rfl rfl rfl rfl rfl (V_assign rfl rfl) (GR_nil) ?_
                      refine GT_nil ?_
                      exact GE_to (ih3 (a + 1) ⟨by omega, fun i j hi hj => by rcases Nat.lt_or_ge i a with r | r; exact hap i j r hj; obtain rfl : i = a := (by omega); exact hbp j (by omega)⟩ (by omega)) ⟨rfl, rfl, trivial⟩ HS.nil
                  · exact ⟨Nat.zero_le _, fun j hi => absurd hi (Nat.not_lt_zero _)⟩
                · skip
                  refine GE_exit rfl ?_
                  refine GE_seq ?_
                  refine GE_slots (L' := []) trivial ?_
                  refine GE_plain (.st 0 .nil) rfl ?_
                  refine GT_st rfl rfl rfl rfl (V_assign rfl rfl) ?_
                  refine GT_nil ?_
                  refine GE_ret Tryd.func38 rfl (fun w hw => ⟨?_, hw.nil⟩)
                  rw [hlr, if_pos (names_apart (fun i j hi hj => hap i j (by omega) hj))]
              · exact ⟨Nat.zero_le _, fun i j hi => absurd hi (Nat.not_lt_zero _)⟩
          · exact ⟨Nat.zero_le _, fun i hi => absurd hi (Nat.not_lt_zero _)⟩
      · exact ⟨Nat.zero_le _, fun i hi => absurd hi (Nat.not_lt_zero _)⟩
set_option maxRecDepth 10000 in
theorem C_rpart {l : List Tk} {x : Prt} (h : Tks w A l) : Con0 Tryd.prog 52 [.slice A l.length c, .agg #[I x.tk, I x.fr, I x.to, I x.gap, I x.inn, I x.out, I x.lev]] w (.bool (goodP l x)) := by
  have hd : ∀ q : Bool, (((0 ≤ x.tk ∧ x.tk < (l.length : Int)) ∧ 0 ≤ x.fr ∧ x.fr < x.to ∧ x.to ≤ ((tkOf l x).data.length : Int) ∧ (-4096 ≤ x.gap ∧ x.gap ≤ 4096) ∧ (0 ≤ x.inn ∧ x.inn ≤ 1000) ∧ (0 ≤ x.out ∧ x.out ≤ 1000) ∧ (0 ≤ x.lev ∧ x.lev ≤ 4000)) ↔ q = true) → Value.bool q = Value.bool (goodP l x) := fun q hq => congrArg Value.bool (by rw [Bool.eq_iff_iff, ← hq, goodP]; simp only [Bool.and_eq_true, decide_eq_true_iff, betw_iff]; simp only [and_assoc])
  have dT : ∀ {q : Prop} [Decidable q], ∀ r : Prop, (r ↔ q) → (r ↔ decide q = true) := fun r e => by rw [decide_eq_true_iff]; exact e
  have dF : ∀ r : Prop, ¬ r → (r ↔ false = true) := fun r e => ⟨fun x => absurd x e, fun x => by cases x⟩
  have h1000 : ∀ {z : Int}, z = z := rfl
  refine Ret_of (vs := [_, _]) hm none' Tryd.func52 rfl Tryd.ntmps52 rfl ?_
  dsimp only [slotsOf]
  refine GE_seq ?_
  refine GE_plain (.ld 0 [] (.st 1 .nil)) rfl ?_
  refine GT_box (z := [_, _, _, _, _, _, _]) rfl rfl rfl rfl rfl rfl rfl (fun _ => GR_nil) (fun b3 => ?_)
  refine GT_st rfl rfl rfl rfl (V_assign rfl rfl) ?_
  refine GT_nil ?_
  refine GE_seq ?_
  refine GE_seq ?_
  refine GE_drawn (.st 0 (.st 1 (.st 2 (.st 3 (.st 4 (.st 5 (.st 6 (.st 7 (.st 8 (.st 9 (.st 10 (.st 11 (.st 12 (.st 13 (.st 14 (.st 15 (.st 16 (.st 17 (.st 18 (.st 19 (.st 20 (.st 21 (.st 22 (.st 23 (.st 24 (.st 25 (.st 26 (.st 27 (.st 28 (.st 29 (.st 30 (.st 31 (.st 32 (.st 33 (.st 34 (.st 35 (.st 36 (.st 37 (.st 38 (.st 39 (.st 40 (.st 41 (.st 42 (.st 43 .nil)))))))))))))))))))))))))))))))))))))))))))) [] (by decide +kernel) ?_
  first | refine GT_st rfl rfl rfl rfl (V_field rfl rfl fo_30_0) ?_ | refine GT_st rfl rfl rfl rfl (V_fieldA rfl rfl fo_30_0) ?_
  refine GT_st rfl rfl rfl rfl (V_load rfl rfl ag_3 (CellAt.item rfl)) ?_
  refine GT_st rfl rfl rfl rfl (V_lss rfl rfl rfl) ?_
  refine GT_st rfl rfl rfl rfl (V_move rfl rfl) ?_
  first | refine GT_splitNot (d := 8) rfl (fun q1 => ?_) (fun q1 => ?_) | refine GT_split (d := 8) rfl (fun q1 => ?_) (fun q1 => ?_) | refine GT_splitNotB (d := 8) rfl (fun q1 => ?_) (fun q1 => ?_) | refine GT_splitB (d := 8) rfl (fun q1 => ?_) (fun q1 => ?_)
  · skip
    refine GT_skip rfl rfl rfl rfl rfl (by decide) rfl rfl ?_
    refine GT_skip rfl rfl rfl rfl rfl (by decide) rfl rfl ?_
    refine GT_skip rfl rfl rfl rfl rfl (by decide) rfl rfl ?_
    refine GT_skip rfl rfl rfl rfl rfl (by decide) rfl rfl ?_
    refine GT_skip rfl rfl rfl rfl rfl (by decide) rfl rfl ?_
    refine GT_st rfl rfl rfl rfl (V_pick_t rfl rfl rfl) ?_
    refine GT_st rfl rfl rfl rfl (V_move rfl rfl) ?_
    refine GT_skip rfl rfl rfl rfl rfl (by decide) rfl rfl ?_
    refine GT_skip rfl rfl rfl rfl rfl (by decide) rfl rfl ?_
    refine GT_skip rfl rfl rfl rfl rfl (by decide) rfl rfl ?_
    refine GT_st rfl rfl rfl rfl (V_pick_t rfl rfl rfl) ?_
    refine GT_st rfl rfl rfl rfl (V_move rfl rfl) ?_
    refine GT_skip rfl rfl rfl rfl rfl (by decide) rfl rfl ?_
    refine GT_skip rfl rfl rfl rfl rfl (by decide) rfl rfl ?_
    refine GT_skip rfl rfl rfl rfl rfl (by decide) rfl rfl ?_
    refine GT_skip rfl rfl rfl rfl rfl (by decide) rfl rfl ?_
    refine GT_skip rfl rfl rfl rfl rfl (by decide) rfl rfl ?_
    refine GT_st rfl rfl rfl rfl (V_pick_t rfl rfl rfl) ?_
    refine GT_st rfl rfl rfl rfl (V_move rfl rfl) ?_
    refine GT_skip rfl rfl rfl rfl rfl (by decide) rfl rfl ?_
    refine GT_skip rfl rfl rfl rfl rfl (by decide) rfl rfl ?_
    refine GT_skip rfl rfl rfl rfl rfl (by decide) rfl rfl ?_
    refine GT_skip rfl rfl rfl rfl rfl (by decide) rfl rfl ?_
    refine GT_skip rfl rfl rfl rfl rfl (by decide) rfl rfl ?_
    refine GT_skip rfl rfl rfl rfl rfl (by decide) rfl rfl ?_
    refine GT_skip rfl rfl rfl rfl rfl (by decide) rfl rfl ?_
    refine GT_skip rfl rfl rfl rfl rfl (by decide) rfl rfl ?_
    refine GT_skip rfl rfl rfl rfl rfl (by decide) rfl rfl ?_
    refine GT_skip rfl rfl rfl rfl rfl (by decide) rfl rfl ?_
    refine GT_st rfl rfl rfl rfl (V_pick_t rfl rfl rfl) ?_
    refine GT_st rfl rfl rfl rfl (V_move rfl rfl) ?_
    refine GT_skip rfl rfl rfl rfl rfl (by decide) rfl rfl ?_
    refine GT_skip rfl rfl rfl rfl rfl (by decide) rfl rfl ?_
    refine GT_skip rfl rfl rfl rfl rfl (by decide) rfl rfl ?_
    refine GT_st rfl rfl rfl rfl (V_pick_t rfl rfl rfl) ?_
    refine GT_st rfl rfl rfl rfl (V_move rfl rfl) ?_
    refine GT_skip rfl rfl rfl rfl rfl (by decide) rfl rfl ?_
    refine GT_skip rfl rfl rfl rfl rfl (by decide) rfl rfl ?_
    refine GT_skip rfl rfl rfl rfl rfl (by decide) rfl rfl ?_
    refine GT_st rfl rfl rfl rfl (V_pick_t rfl rfl rfl) ?_
    refine GT_nil ?_
    refine GE_cond_t rfl ?_
    refine GE_seq ?_
    refine GE_slots (L' := []) trivial ?_
    refine GE_plain (.st 0 .nil) rfl ?_
    refine GT_st rfl rfl rfl rfl (V_assign rfl rfl) ?_
    refine GT_nil ?_
    refine GE_ret Tryd.func52 rfl (fun w hw => ⟨?_, hw.nil⟩)
    refine hd _ ?_; first | exact dF _ (fun e => by omega) | exact dF _ (fun e => by have := e.2.2.2.1; unfold tkOf at this; omega) | exact dT _ ⟨fun e => by omega, fun e => by refine ⟨⟨?_, ?_⟩, ?_, ?_, ?_, ⟨?_, ?_⟩, ⟨?_, ?_⟩, ⟨?_, ?_⟩, ?_, ?_⟩ <;> omega⟩
  · skip
    first | refine GT_st_g rfl rfl rfl rfl rfl rfl rfl (V_field rfl rfl fo_30_0) ?_ | refine GT_st_g rfl rfl rfl rfl rfl rfl rfl (V_fieldA rfl rfl fo_30_0) ?_
    refine GT_st_g rfl rfl rfl rfl rfl rfl rfl (V_load rfl rfl ag_3 (CellAt.item rfl)) ?_
    refine GT_st_g rfl rfl rfl rfl rfl rfl rfl (V_move rfl rfl) ?_
    refine GT_st_g rfl rfl rfl rfl rfl rfl rfl (V_len rfl Tryd.underlying28 rfl) ?_
    refine GT_st_g rfl rfl rfl rfl rfl rfl rfl (V_geq rfl rfl rfl) ?_
    refine GT_st rfl rfl rfl rfl (V_pick_f rfl rfl rfl) ?_
    refine GT_st rfl rfl rfl rfl (V_move rfl rfl) ?_
    first | refine GT_splitNot (d := 15) rfl (fun q2 => ?_) (fun q2 => ?_) | refine GT_split (d := 15) rfl (fun q2 => ?_) (fun q2 => ?_) | refine GT_splitNotB (d := 15) rfl (fun q2 => ?_) (fun q2 => ?_) | refine GT_splitB (d := 15) rfl (fun q2 => ?_) (fun q2 => ?_)
    · skip
      refine GT_skip rfl rfl rfl rfl rfl (by decide) rfl rfl ?_
      refine GT_skip rfl rfl rfl rfl rfl (by decide) rfl rfl ?_
      refine GT_skip rfl rfl rfl rfl rfl (by decide) rfl rfl ?_
      refine GT_st rfl rfl rfl rfl (V_pick_t rfl rfl rfl) ?_
      refine GT_st rfl rfl rfl rfl (V_move rfl rfl) ?_
      refine GT_skip rfl rfl rfl rfl rfl (by decide) rfl rfl ?_
      refine GT_skip rfl rfl rfl rfl rfl (by decide) rfl rfl ?_
      refine GT_skip rfl rfl rfl rfl rfl (by decide) rfl rfl ?_
      refine GT_skip rfl rfl rfl rfl rfl (by decide) rfl rfl ?_
      refine GT_skip rfl rfl rfl rfl rfl (by decide) rfl rfl ?_
      refine GT_st rfl rfl rfl rfl (V_pick_t rfl rfl rfl) ?_
      refine GT_st rfl rfl rfl rfl (V_move rfl rfl) ?_
      refine GT_skip rfl rfl rfl rfl rfl (by decide) rfl rfl ?_
      refine GT_skip rfl rfl rfl rfl rfl (by decide) rfl rfl ?_
      refine GT_skip rfl rfl rfl rfl rfl (by decide) rfl rfl ?_
      refine GT_skip rfl rfl rfl rfl rfl (by decide) rfl rfl ?_
      refine GT_skip rfl rfl rfl rfl rfl (by decide) rfl rfl ?_
      refine GT_skip rfl rfl rfl rfl rfl (by decide) rfl rfl ?_
      refine GT_skip rfl rfl rfl rfl rfl (by decide) rfl rfl ?_
      refine GT_skip rfl rfl rfl rfl rfl (by decide) rfl rfl ?_
      refine GT_skip rfl rfl rfl rfl rfl (by decide) rfl rfl ?_
      refine GT_skip rfl rfl rfl rfl rfl (by decide) rfl rfl ?_
      refine GT_st rfl rfl rfl rfl (V_pick_t rfl rfl rfl) ?_
      refine GT_st rfl rfl rfl rfl (V_move rfl rfl) ?_
      refine GT_skip rfl rfl rfl rfl rfl (by decide) rfl rfl ?_
      refine GT_skip rfl rfl rfl rfl rfl (by decide) rfl rfl ?_
      refine GT_skip rfl rfl rfl rfl rfl (by decide) rfl rfl ?_
      refine GT_st rfl rfl rfl rfl (V_pick_t rfl rfl rfl) ?_
      refine GT_st rfl rfl rfl rfl (V_move rfl rfl) ?_
      refine GT_skip rfl rfl rfl rfl rfl (by decide) rfl rfl ?_
      refine GT_skip rfl rfl rfl rfl rfl (by decide) rfl rfl ?_
      refine GT_skip rfl rfl rfl rfl rfl (by decide) rfl rfl ?_
      refine GT_st rfl rfl rfl rfl (V_pick_t rfl rfl rfl) ?_
      refine GT_nil ?_
      refine GE_cond_t rfl ?_
      refine GE_seq ?_
      refine GE_slots (L' := []) trivial ?_
      refine GE_plain (.st 0 .nil) rfl ?_
      refine GT_st rfl rfl rfl rfl (V_assign rfl rfl) ?_
      refine GT_nil ?_
      refine GE_ret Tryd.func52 rfl (fun w hw => ⟨?_, hw.nil⟩)
      refine hd _ ?_; first | exact dF _ (fun e => by omega) | exact dF _ (fun e => by have := e.2.2.2.1; unfold tkOf at this; omega) | exact dT _ ⟨fun e => by omega, fun e => by refine ⟨⟨?_, ?_⟩, ?_, ?_, ?_, ⟨?_, ?_⟩, ⟨?_, ?_⟩, ⟨?_, ?_⟩, ?_, ?_⟩ <;> omega⟩
    · skip
      first | refine GT_st_g rfl rfl rfl rfl rfl rfl rfl (V_field rfl rfl fo_30_1) ?_ | refine GT_st_g rfl rfl rfl rfl rfl rfl rfl (V_fieldA rfl rfl fo_30_1) ?_
      refine GT_st_g rfl rfl rfl rfl rfl rfl rfl (V_load rfl rfl ag_3 (CellAt.item rfl)) ?_
      refine GT_st_g rfl rfl rfl rfl rfl rfl rfl (V_lss rfl rfl rfl) ?_
      refine GT_st rfl rfl rfl rfl (V_pick_f rfl rfl rfl) ?_
      refine GT_st rfl rfl rfl rfl (V_move rfl rfl) ?_
      first | refine GT_splitNot (d := 20) rfl (fun q3 => ?_) (fun q3 => ?_) | refine GT_split (d := 20) rfl (fun q3 => ?_) (fun q3 => ?_) | refine GT_splitNotB (d := 20) rfl (fun q3 => ?_) (fun q3 => ?_) | refine GT_splitB (d := 20) rfl (fun q3 => ?_) (fun q3 => ?_)
      · skip
        refine GT_skip rfl rfl rfl rfl rfl (by decide) rfl rfl ?_
        refine GT_skip rfl rfl rfl rfl rfl (by decide) rfl rfl ?_
        refine GT_skip rfl rfl rfl rfl rfl (by decide) rfl rfl ?_
        refine GT_skip rfl rfl rfl rfl rfl (by decide) rfl rfl ?_
        refine GT_skip rfl rfl rfl rfl rfl (by decide) rfl rfl ?_
        refine GT_st rfl rfl rfl rfl (V_pick_t rfl rfl rfl) ?_
        refine GT_st rfl rfl rfl rfl (V_move rfl rfl) ?_
        refine GT_skip rfl rfl rfl rfl rfl (by decide) rfl rfl ?_
        refine GT_skip rfl rfl rfl rfl rfl (by decide) rfl rfl ?_
        refine GT_skip rfl rfl rfl rfl rfl (by decide) rfl rfl ?_
        refine GT_skip rfl rfl rfl rfl rfl (by decide) rfl rfl ?_
        refine GT_skip rfl rfl rfl rfl rfl (by decide) rfl rfl ?_
        refine GT_skip rfl rfl rfl rfl rfl (by decide) rfl rfl ?_
        refine GT_skip rfl rfl rfl rfl rfl (by decide) rfl rfl ?_
        refine GT_skip rfl rfl rfl rfl rfl (by decide) rfl rfl ?_
        refine GT_skip rfl rfl rfl rfl rfl (by decide) rfl rfl ?_
        refine GT_skip rfl rfl rfl rfl rfl (by decide) rfl rfl ?_
        refine GT_st rfl rfl rfl rfl (V_pick_t rfl rfl rfl) ?_
        refine GT_st rfl rfl rfl rfl (V_move rfl rfl) ?_
        refine GT_skip rfl rfl rfl rfl rfl (by decide) rfl rfl ?_
        refine GT_skip rfl rfl rfl rfl rfl (by decide) rfl rfl ?_
        refine GT_skip rfl rfl rfl rfl rfl (by decide) rfl rfl ?_
        refine GT_st rfl rfl rfl rfl (V_pick_t rfl rfl rfl) ?_
        refine GT_st rfl rfl rfl rfl (V_move rfl rfl) ?_
        refine GT_skip rfl rfl rfl rfl rfl (by decide) rfl rfl ?_
        refine GT_skip rfl rfl rfl rfl rfl (by decide) rfl rfl ?_
        refine GT_skip rfl rfl rfl rfl rfl (by decide) rfl rfl ?_
        refine GT_st rfl rfl rfl rfl (V_pick_t rfl rfl rfl) ?_
        refine GT_nil ?_
        refine GE_cond_t rfl ?_
        refine GE_seq ?_
        refine GE_slots (L' := []) trivial ?_
        refine GE_plain (.st 0 .nil) rfl ?_
        refine GT_st rfl rfl rfl rfl (V_assign rfl rfl) ?_
        refine GT_nil ?_
        refine GE_ret Tryd.func52 rfl (fun w hw => ⟨?_, hw.nil⟩)
        refine hd _ ?_; first | exact dF _ (fun e => by omega) | exact dF _ (fun e => by have := e.2.2.2.1; unfold tkOf at this; omega) | exact dT _ ⟨fun e => by omega, fun e => by refine ⟨⟨?_, ?_⟩, ?_, ?_, ?_, ⟨?_, ?_⟩, ⟨?_, ?_⟩, ⟨?_, ?_⟩, ?_, ?_⟩ <;> omega⟩
      · skip
        first | refine GT_st_g rfl rfl rfl rfl rfl rfl rfl (V_field rfl rfl fo_30_1) ?_ | refine GT_st_g rfl rfl rfl rfl rfl rfl rfl (V_fieldA rfl rfl fo_30_1) ?_
        refine GT_st_g rfl rfl rfl rfl rfl rfl rfl (V_load rfl rfl ag_3 (CellAt.item rfl)) ?_
        first | refine GT_st_g rfl rfl rfl rfl rfl rfl rfl (V_field rfl rfl fo_30_2) ?_ | refine GT_st_g rfl rfl rfl rfl rfl rfl rfl (V_fieldA rfl rfl fo_30_2) ?_
        refine GT_st_g rfl rfl rfl rfl rfl rfl rfl (V_load rfl rfl ag_3 (CellAt.item rfl)) ?_
        refine GT_st_g rfl rfl rfl rfl rfl rfl rfl (V_geq rfl rfl rfl) ?_
        refine GT_st rfl rfl rfl rfl (V_pick_f rfl rfl rfl) ?_
        refine GT_st rfl rfl rfl rfl (V_move rfl rfl) ?_
        first | refine GT_splitNot (d := 27) rfl (fun q4 => ?_) (fun q4 => ?_) | refine GT_split (d := 27) rfl (fun q4 => ?_) (fun q4 => ?_) | refine GT_splitNotB (d := 27) rfl (fun q4 => ?_) (fun q4 => ?_) | refine GT_splitB (d := 27) rfl (fun q4 => ?_) (fun q4 => ?_)
        · skip
          refine GT_skip rfl rfl rfl rfl rfl (by decide) rfl rfl ?_
          refine GT_skip rfl rfl rfl rfl rfl (by decide) rfl rfl ?_
          refine GT_skip rfl rfl rfl rfl rfl (by decide) rfl rfl ?_
          refine GT_skip rfl rfl rfl rfl rfl (by decide) rfl rfl ?_
          refine GT_skip rfl rfl rfl rfl rfl (by decide) rfl rfl ?_
          refine GT_skip rfl rfl rfl rfl rfl (by decide) rfl rfl ?_
          refine GT_skip rfl rfl rfl rfl rfl (by decide) rfl rfl ?_
          refine GT_skip rfl rfl rfl rfl rfl (by decide) rfl rfl ?_
          refine GT_skip rfl rfl rfl rfl rfl (by decide) rfl rfl ?_
          refine GT_skip rfl rfl rfl rfl rfl (by decide) rfl rfl ?_
          refine GT_st rfl rfl rfl rfl (V_pick_t rfl rfl rfl) ?_
          refine GT_st rfl rfl rfl rfl (V_move rfl rfl) ?_
          refine GT_skip rfl rfl rfl rfl rfl (by decide) rfl rfl ?_
          refine GT_skip rfl rfl rfl rfl rfl (by decide) rfl rfl ?_
          refine GT_skip rfl rfl rfl rfl rfl (by decide) rfl rfl ?_
          refine GT_st rfl rfl rfl rfl (V_pick_t rfl rfl rfl) ?_
          refine GT_st rfl rfl rfl rfl (V_move rfl rfl) ?_
          refine GT_skip rfl rfl rfl rfl rfl (by decide) rfl rfl ?_
          refine GT_skip rfl rfl rfl rfl rfl (by decide) rfl rfl ?_
          refine GT_skip rfl rfl rfl rfl rfl (by decide) rfl rfl ?_
          refine GT_st rfl rfl rfl rfl (V_pick_t rfl rfl rfl) ?_
          refine GT_nil ?_
          refine GE_cond_t rfl ?_
          refine GE_seq ?_
          refine GE_slots (L' := []) trivial ?_
          refine GE_plain (.st 0 .nil) rfl ?_
          refine GT_st rfl rfl rfl rfl (V_assign rfl rfl) ?_
          refine GT_nil ?_
          refine GE_ret Tryd.func52 rfl (fun w hw => ⟨?_, hw.nil⟩)
          refine hd _ ?_; first | exact dF _ (fun e => by omega) | exact dF _ (fun e => by have := e.2.2.2.1; unfold tkOf at this; omega) | exact dT _ ⟨fun e => by omega, fun e => by refine ⟨⟨?_, ?_⟩, ?_, ?_, ?_, ⟨?_, ?_⟩, ⟨?_, ?_⟩, ⟨?_, ?_⟩, ?_, ?_⟩ <;> omega⟩
        · have hk : x.tk.toNat < l.length := (by omega)
          first | refine GT_st_g rfl rfl rfl rfl rfl rfl rfl (V_field rfl rfl fo_30_2) ?_ | refine GT_st_g rfl rfl rfl rfl rfl rfl rfl (V_fieldA rfl rfl fo_30_2) ?_
          refine GT_st_g rfl rfl rfl rfl rfl rfl rfl (V_load rfl rfl ag_3 (CellAt.item rfl)) ?_
          refine GT_st_g rfl rfl rfl rfl rfl rfl rfl (V_move rfl rfl) ?_
          first | refine GT_st_g rfl rfl rfl rfl rfl rfl rfl (V_field rfl rfl fo_30_0) ?_ | refine GT_st_g rfl rfl rfl rfl rfl rfl rfl (V_fieldA rfl rfl fo_30_0) ?_
          refine GT_st_g rfl rfl rfl rfl rfl rfl rfl (V_load rfl rfl ag_3 (CellAt.item rfl)) ?_
          refine GT_st_g rfl rfl rfl rfl rfl rfl rfl (V_index rfl rfl rfl Tryd.underlying28 sz_27 (k := x.tk.toNat) (by omega) hk (h.1.isSome hk)) ?_
          first | refine GT_st_g rfl rfl rfl rfl rfl rfl rfl (V_field rfl rfl fo_27_1) ?_ | refine GT_st_g rfl rfl rfl rfl rfl rfl rfl (V_fieldA rfl rfl fo_27_1) ?_
          refine GT_st_g rfl rfl rfl rfl rfl rfl rfl (V_load rfl rfl ag_22 (h.1.at1 noM hk rfl)) ?_
          refine GT_st_g rfl rfl rfl rfl rfl rfl rfl (V_len rfl Tryd.underlying22 rfl) ?_
          refine GT_st_g rfl rfl rfl rfl rfl rfl rfl (V_gtr rfl rfl rfl) ?_
          refine GT_st rfl rfl rfl rfl (V_pick_f rfl rfl rfl) ?_
          refine GT_st rfl rfl rfl rfl (V_move rfl rfl) ?_
          first | refine GT_splitNot (d := 39) rfl (fun q5 => ?_) (fun q5 => ?_) | refine GT_split (d := 39) rfl (fun q5 => ?_) (fun q5 => ?_) | refine GT_splitNotB (d := 39) rfl (fun q5 => ?_) (fun q5 => ?_) | refine GT_splitB (d := 39) rfl (fun q5 => ?_) (fun q5 => ?_)
          · skip
            refine GT_skip rfl rfl rfl rfl rfl (by decide) rfl rfl ?_
            refine GT_skip rfl rfl rfl rfl rfl (by decide) rfl rfl ?_
            refine GT_skip rfl rfl rfl rfl rfl (by decide) rfl rfl ?_
            refine GT_st rfl rfl rfl rfl (V_pick_t rfl rfl rfl) ?_
            refine GT_st rfl rfl rfl rfl (V_move rfl rfl) ?_
            refine GT_skip rfl rfl rfl rfl rfl (by decide) rfl rfl ?_
            refine GT_skip rfl rfl rfl rfl rfl (by decide) rfl rfl ?_
            refine GT_skip rfl rfl rfl rfl rfl (by decide) rfl rfl ?_
            refine GT_st rfl rfl rfl rfl (V_pick_t rfl rfl rfl) ?_
            refine GT_nil ?_
            refine GE_cond_t rfl ?_
            refine GE_seq ?_
            refine GE_slots (L' := []) trivial ?_
            refine GE_plain (.st 0 .nil) rfl ?_
            refine GT_st rfl rfl rfl rfl (V_assign rfl rfl) ?_
            refine GT_nil ?_
            refine GE_ret Tryd.func52 rfl (fun w hw => ⟨?_, hw.nil⟩)
            refine hd _ ?_; first | exact dF _ (fun e => by omega) | exact dF _ (fun e => by have := e.2.2.2.1; unfold tkOf at this; omega) | exact dT _ ⟨fun e => by omega, fun e => by refine ⟨⟨?_, ?_⟩, ?_, ?_, ?_, ⟨?_, ?_⟩, ⟨?_, ?_⟩, ⟨?_, ?_⟩, ?_, ?_⟩ <;> omega⟩
          · skip
            first | refine GT_st_g rfl rfl rfl rfl rfl rfl rfl (V_field rfl rfl fo_30_3) ?_ | refine GT_st_g rfl rfl rfl rfl rfl rfl rfl (V_fieldA rfl rfl fo_30_3) ?_
            refine GT_st_g rfl rfl rfl rfl rfl rfl rfl (V_load rfl rfl ag_3 (CellAt.item rfl)) ?_
            refine GT_st_g rfl rfl rfl rfl rfl rfl rfl (V_lss rfl rfl rfl) ?_
            refine GT_st rfl rfl rfl rfl (V_pick_f rfl rfl rfl) ?_
            refine GT_st rfl rfl rfl rfl (V_move rfl rfl) ?_
            first | refine GT_splitNot (d := 44) rfl (fun q6 => ?_) (fun q6 => ?_) | refine GT_split (d := 44) rfl (fun q6 => ?_) (fun q6 => ?_) | refine GT_splitNotB (d := 44) rfl (fun q6 => ?_) (fun q6 => ?_) | refine GT_splitB (d := 44) rfl (fun q6 => ?_) (fun q6 => ?_)
            · skip
              refine GT_skip rfl rfl rfl rfl rfl (by decide) rfl rfl ?_
              refine GT_skip rfl rfl rfl rfl rfl (by decide) rfl rfl ?_
              refine GT_skip rfl rfl rfl rfl rfl (by decide) rfl rfl ?_
              refine GT_st rfl rfl rfl rfl (V_pick_t rfl rfl rfl) ?_
              refine GT_nil ?_
              refine GE_cond_t rfl ?_
              refine GE_seq ?_
              refine GE_slots (L' := []) trivial ?_
              refine GE_plain (.st 0 .nil) rfl ?_
              refine GT_st rfl rfl rfl rfl (V_assign rfl rfl) ?_
              refine GT_nil ?_
              refine GE_ret Tryd.func52 rfl (fun w hw => ⟨?_, hw.nil⟩)
              refine hd _ ?_; first | exact dF _ (fun e => by omega) | exact dF _ (fun e => by have := e.2.2.2.1; unfold tkOf at this; omega) | exact dT _ ⟨fun e => by omega, fun e => by refine ⟨⟨?_, ?_⟩, ?_, ?_, ?_, ⟨?_, ?_⟩, ⟨?_, ?_⟩, ⟨?_, ?_⟩, ?_, ?_⟩ <;> omega⟩
            · skip
              first | refine GT_st_g rfl rfl rfl rfl rfl rfl rfl (V_field rfl rfl fo_30_3) ?_ | refine GT_st_g rfl rfl rfl rfl rfl rfl rfl (V_fieldA rfl rfl fo_30_3) ?_
              refine GT_st_g rfl rfl rfl rfl rfl rfl rfl (V_load rfl rfl ag_3 (CellAt.item rfl)) ?_
              refine GT_st_g rfl rfl rfl rfl rfl rfl rfl (V_gtr rfl rfl rfl) ?_
              refine GT_st rfl rfl rfl rfl (V_pick_f rfl rfl rfl) ?_
              refine GT_nil ?_
              first | refine GE_condNot rfl (fun q7 => ?_) (fun q7 => ?_) | refine GE_cond rfl (fun q7 => ?_) (fun q7 => ?_) | refine GE_condNotB rfl (fun q7 => ?_) (fun q7 => ?_) | refine GE_condB rfl (fun q7 => ?_) (fun q7 => ?_)
              · skip
                refine GE_seq ?_
                refine GE_slots (L' := []) trivial ?_
                refine GE_plain (.st 0 .nil) rfl ?_
                refine GT_st rfl rfl rfl rfl (V_assign rfl rfl) ?_
                refine GT_nil ?_
                refine GE_ret Tryd.func52 rfl (fun w hw => ⟨?_, hw.nil⟩)
                refine hd _ ?_; first | exact dF _ (fun e => by omega) | exact dF _ (fun e => by have := e.2.2.2.1; unfold tkOf at this; omega) | exact dT _ ⟨fun e => by omega, fun e => by refine ⟨⟨?_, ?_⟩, ?_, ?_, ?_, ⟨?_, ?_⟩, ⟨?_, ?_⟩, ⟨?_, ?_⟩, ?_, ?_⟩ <;> omega⟩
              · have htk : x.to ≤ ((tkOf l x).data.length : Int) := (by unfold tkOf; omega)
                refine GE_skip ?_
                refine GE_seq ?_
                refine GE_slots (L' := [(3, _)]) ⟨rfl, trivial⟩ ?_
                refine GE_plain (.st 0 (.st 1 (.st 2 (.st 3 (.st 4 (.st 5 (.st 6 (.st 7 (.st 8 (.st 9 (.st 10 (.st 11 (.st 12 (.st 13 (.st 14 (.st 15 (.st 16 (.st 17 (.st 18 (.st 19 (.st 20 (.st 21 (.st 22 (.st 23 (.st 24 (.st 25 (.st 26 (.st 27 (.st 28 .nil))))))))))))))))))))))))))))) rfl ?_
                first | refine GT_st rfl rfl rfl rfl (V_field rfl rfl fo_30_4) ?_ | refine GT_st rfl rfl rfl rfl (V_fieldA rfl rfl fo_30_4) ?_
                refine GT_st rfl rfl rfl rfl (V_load rfl rfl ag_3 (CellAt.item rfl)) ?_
                refine GT_st rfl rfl rfl rfl (V_geq rfl rfl rfl) ?_
                refine GT_st rfl rfl rfl rfl (V_move rfl rfl) ?_
                first | refine GT_splitNot (d := 52) rfl (fun q8 => ?_) (fun q8 => ?_) | refine GT_split (d := 52) rfl (fun q8 => ?_) (fun q8 => ?_) | refine GT_splitNotB (d := 52) rfl (fun q8 => ?_) (fun q8 => ?_) | refine GT_splitB (d := 52) rfl (fun q8 => ?_) (fun q8 => ?_)
                · skip
                  first | refine GT_st_g rfl rfl rfl rfl rfl rfl rfl (V_field rfl rfl fo_30_4) ?_ | refine GT_st_g rfl rfl rfl rfl rfl rfl rfl (V_fieldA rfl rfl fo_30_4) ?_
                  refine GT_st_g rfl rfl rfl rfl rfl rfl rfl (V_load rfl rfl ag_3 (CellAt.item rfl)) ?_
                  refine GT_st_g rfl rfl rfl rfl rfl rfl rfl (V_leq rfl rfl rfl) ?_
                  refine GT_st rfl rfl rfl rfl (V_pick_t rfl rfl rfl) ?_
                  refine GT_st rfl rfl rfl rfl (V_move rfl rfl) ?_
                  first | refine GT_splitNot (d := 57) rfl (fun q9 => ?_) (fun q9 => ?_) | refine GT_split (d := 57) rfl (fun q9 => ?_) (fun q9 => ?_) | refine GT_splitNotB (d := 57) rfl (fun q9 => ?_) (fun q9 => ?_) | refine GT_splitB (d := 57) rfl (fun q9 => ?_) (fun q9 => ?_)
                  · skip
                    first | refine GT_st_g rfl rfl rfl rfl rfl rfl rfl (V_field rfl rfl fo_30_5) ?_ | refine GT_st_g rfl rfl rfl rfl rfl rfl rfl (V_fieldA rfl rfl fo_30_5) ?_
                    refine GT_st_g rfl rfl rfl rfl rfl rfl rfl (V_load rfl rfl ag_3 (CellAt.item rfl)) ?_
                    refine GT_st_g rfl rfl rfl rfl rfl rfl rfl (V_geq rfl rfl rfl) ?_
                    refine GT_st rfl rfl rfl rfl (V_pick_t rfl rfl rfl) ?_
                    refine GT_st rfl rfl rfl rfl (V_move rfl rfl) ?_
                    first | refine GT_splitNot (d := 62) rfl (fun q10 => ?_) (fun q10 => ?_) | refine GT_split (d := 62) rfl (fun q10 => ?_) (fun q10 => ?_) | refine GT_splitNotB (d := 62) rfl (fun q10 => ?_) (fun q10 => ?_) | refine GT_splitB (d := 62) rfl (fun q10 => ?_) (fun q10 => ?_)
                    · skip
                      first | refine GT_st_g rfl rfl rfl rfl rfl rfl rfl (V_field rfl rfl fo_30_5) ?_ | refine GT_st_g rfl rfl rfl rfl rfl rfl rfl (V_fieldA rfl rfl fo_30_5) ?_
                      refine GT_st_g rfl rfl rfl rfl rfl rfl rfl (V_load rfl rfl ag_3 (CellAt.item rfl)) ?_
                      refine GT_st_g rfl rfl rfl rfl rfl rfl rfl (V_leq rfl rfl rfl) ?_
                      refine GT_st rfl rfl rfl rfl (V_pick_t rfl rfl rfl) ?_
                      refine GT_st rfl rfl rfl rfl (V_move rfl rfl) ?_
                      first | refine GT_splitNot (d := 67) rfl (fun q11 => ?_) (fun q11 => ?_) | refine GT_split (d := 67) rfl (fun q11 => ?_) (fun q11 => ?_) | refine GT_splitNotB (d := 67) rfl (fun q11 => ?_) (fun q11 => ?_) | refine GT_splitB (d := 67) rfl (fun q11 => ?_) (fun q11 => ?_)
                      · skip
                        first | refine GT_st_g rfl rfl rfl rfl rfl rfl rfl (V_field rfl rfl fo_30_6) ?_ | refine GT_st_g rfl rfl rfl rfl rfl rfl rfl (V_fieldA rfl rfl fo_30_6) ?_
                        refine GT_st_g rfl rfl rfl rfl rfl rfl rfl (V_load rfl rfl ag_2 (CellAt.item rfl)) ?_
                        refine GT_st_g rfl rfl rfl rfl rfl rfl rfl (V_geq rfl rfl rfl) ?_
                        refine GT_st rfl rfl rfl rfl (V_pick_t rfl rfl rfl) ?_
                        refine GT_st rfl rfl rfl rfl (V_move rfl rfl) ?_
                        first | refine GT_splitNot (d := 72) rfl (fun q12 => ?_) (fun q12 => ?_) | refine GT_split (d := 72) rfl (fun q12 => ?_) (fun q12 => ?_) | refine GT_splitNotB (d := 72) rfl (fun q12 => ?_) (fun q12 => ?_) | refine GT_splitB (d := 72) rfl (fun q12 => ?_) (fun q12 => ?_)
                        · skip
                          first | refine GT_st_g rfl rfl rfl rfl rfl rfl rfl (V_field rfl rfl fo_30_6) ?_ | refine GT_st_g rfl rfl rfl rfl rfl rfl rfl (V_fieldA rfl rfl fo_30_6) ?_
                          refine GT_st_g rfl rfl rfl rfl rfl rfl rfl (V_load rfl rfl ag_2 (CellAt.item rfl)) ?_
                          refine GT_st_g rfl rfl rfl rfl rfl rfl rfl (V_leq rfl rfl rfl) ?_
                          refine GT_st rfl rfl rfl rfl (V_pick_t rfl rfl rfl) ?_
                          refine GT_st rfl rfl rfl rfl (V_assign rfl rfl) ?_
                          refine GT_nil ?_
                          refine GE_ret Tryd.func52 rfl (fun w hw => ⟨?_, hw.nil⟩)
                          refine hd _ ?_; first | exact dF _ (fun e => by omega) | exact dF _ (fun e => by have := e.2.2.2.1; unfold tkOf at this; omega) | exact dT _ ⟨fun e => by omega, fun e => by refine ⟨⟨?_, ?_⟩, ?_, ?_, ?_, ⟨?_, ?_⟩, ⟨?_, ?_⟩, ⟨?_, ?_⟩, ?_, ?_⟩ <;> omega⟩
                        · skip
                          refine GT_skip rfl rfl rfl rfl rfl (by decide) rfl rfl ?_
                          refine GT_skip rfl rfl rfl rfl rfl (by decide) rfl rfl ?_
                          refine GT_skip rfl rfl rfl rfl rfl (by decide) rfl rfl ?_
                          refine GT_st rfl rfl rfl rfl (V_pick_f rfl rfl rfl) ?_
                          refine GT_st rfl rfl rfl rfl (V_assign rfl rfl) ?_
                          refine GT_nil ?_
                          refine GE_ret Tryd.func52 rfl (fun w hw => ⟨?_, hw.nil⟩)
                          refine hd _ ?_; first | exact dF _ (fun e => by omega) | exact dF _ (fun e => by have := e.2.2.2.1; unfold tkOf at this; omega) | exact dT _ ⟨fun e => by omega, fun e => by refine ⟨⟨?_, ?_⟩, ?_, ?_, ?_, ⟨?_, ?_⟩, ⟨?_, ?_⟩, ⟨?_, ?_⟩, ?_, ?_⟩ <;> omega⟩
                      · skip
                        refine GT_skip rfl rfl rfl rfl rfl (by decide) rfl rfl ?_
                        refine GT_skip rfl rfl rfl rfl rfl (by decide) rfl rfl ?_
                        refine GT_skip rfl rfl rfl rfl rfl (by decide) rfl rfl ?_
                        refine GT_st rfl rfl rfl rfl (V_pick_f rfl rfl rfl) ?_
                        refine GT_st rfl rfl rfl rfl (V_move rfl rfl) ?_
                        refine GT_skip rfl rfl rfl rfl rfl (by decide) rfl rfl ?_
                        refine GT_skip rfl rfl rfl rfl rfl (by decide) rfl rfl ?_
                        refine GT_skip rfl rfl rfl rfl rfl (by decide) rfl rfl ?_
                        refine GT_st rfl rfl rfl rfl (V_pick_f rfl rfl rfl) ?_
                        refine GT_st rfl rfl rfl rfl (V_assign rfl rfl) ?_
                        refine GT_nil ?_
                        refine GE_ret Tryd.func52 rfl (fun w hw => ⟨?_, hw.nil⟩)
                        refine hd _ ?_; first | exact dF _ (fun e => by omega) | exact dF _ (fun e => by have := e.2.2.2.1; unfold tkOf at this; omega) | exact dT _ ⟨fun e => by omega, fun e => by refine ⟨⟨?_, ?_⟩, ?_, ?_, ?_, ⟨?_, ?_⟩, ⟨?_, ?_⟩, ⟨?_, ?_⟩, ?_, ?_⟩ <;> omega⟩
                    · skip
                      refine GT_skip rfl rfl rfl rfl rfl (by decide) rfl rfl ?_
                      refine GT_skip rfl rfl rfl rfl rfl (by decide) rfl rfl ?_
                      refine GT_skip rfl rfl rfl rfl rfl (by decide) rfl rfl ?_
                      refine GT_st rfl rfl rfl rfl (V_pick_f rfl rfl rfl) ?_
                      refine GT_st rfl rfl rfl rfl (V_move rfl rfl) ?_
                      refine GT_skip rfl rfl rfl rfl rfl (by decide) rfl rfl ?_
                      refine GT_skip rfl rfl rfl rfl rfl (by decide) rfl rfl ?_
                      refine GT_skip rfl rfl rfl rfl rfl (by decide) rfl rfl ?_
                      refine GT_st rfl rfl rfl rfl (V_pick_f rfl rfl rfl) ?_
                      refine GT_st rfl rfl rfl rfl (V_move rfl rfl) ?_
                      refine GT_skip rfl rfl rfl rfl rfl (by decide) rfl rfl ?_
                      refine GT_skip rfl rfl rfl rfl rfl (by decide) rfl rfl ?_
                      refine GT_skip rfl rfl rfl rfl rfl (by decide) rfl rfl ?_
                      refine GT_st rfl rfl rfl rfl (V_pick_f rfl rfl rfl) ?_
                      refine GT_st rfl rfl rfl rfl (V_assign rfl rfl) ?_
                      refine GT_nil ?_
                      refine GE_ret Tryd.func52 rfl (fun w hw => ⟨?_, hw.nil⟩)
                      refine hd _ ?_; first | exact dF _ (fun e => by omega) | exact dF _ (fun e => by have := e.2.2.2.1; unfold tkOf at this; omega) | exact dT _ ⟨fun e => by omega, fun e => by refine ⟨⟨?_, ?_⟩, ?_, ?_, ?_, ⟨?_, ?_⟩, ⟨?_, ?_⟩, ⟨?_, ?_⟩, ?_, ?_⟩ <;> omega⟩
                  · skip
                    refine GT_skip rfl rfl rfl rfl rfl (by decide) rfl rfl ?_
                    refine GT_skip rfl rfl rfl rfl rfl (by decide) rfl rfl ?_
                    refine GT_skip rfl rfl rfl rfl rfl (by decide) rfl rfl ?_
                    refine GT_st rfl rfl rfl rfl (V_pick_f rfl rfl rfl) ?_
                    refine GT_st rfl rfl rfl rfl (V_move rfl rfl) ?_
                    refine GT_skip rfl rfl rfl rfl rfl (by decide) rfl rfl ?_
                    refine GT_skip rfl rfl rfl rfl rfl (by decide) rfl rfl ?_
                    refine GT_skip rfl rfl rfl rfl rfl (by decide) rfl rfl ?_
                    refine GT_st rfl rfl rfl rfl (V_pick_f rfl rfl rfl) ?_
                    refine GT_st rfl rfl rfl rfl (V_move rfl rfl) ?_
                    refine GT_skip rfl rfl rfl rfl rfl (by decide) rfl rfl ?_
                    refine GT_skip rfl rfl rfl rfl rfl (by decide) rfl rfl ?_
                    refine GT_skip rfl rfl rfl rfl rfl (by decide) rfl rfl ?_
                    refine GT_st rfl rfl rfl rfl (V_pick_f rfl rfl rfl) ?_
                    refine GT_st rfl rfl rfl rfl (V_move rfl rfl) ?_
                    refine GT_skip rfl rfl rfl rfl rfl (by decide) rfl rfl ?_
                    refine GT_skip rfl rfl rfl rfl rfl (by decide) rfl rfl ?_
                    refine GT_skip rfl rfl rfl rfl rfl (by decide) rfl rfl ?_
                    refine GT_st rfl rfl rfl rfl (V_pick_f rfl rfl rfl) ?_
                    refine GT_st rfl rfl rfl rfl (V_assign rfl rfl) ?_
                    refine GT_nil ?_
                    refine GE_ret Tryd.func52 rfl (fun w hw => ⟨?_, hw.nil⟩)
                    refine hd _ ?_; first | exact dF _ (fun e => by omega) | exact dF _ (fun e => by have := e.2.2.2.1; unfold tkOf at this; omega) | exact dT _ ⟨fun e => by omega, fun e => by refine ⟨⟨?_, ?_⟩, ?_, ?_, ?_, ⟨?_, ?_⟩, ⟨?_, ?_⟩, ⟨?_, ?_⟩, ?_, ?_⟩ <;> omega⟩
                · skip
                  refine GT_skip rfl rfl rfl rfl rfl (by decide) rfl rfl ?_
                  refine GT_skip rfl rfl rfl rfl rfl (by decide) rfl rfl ?_
                  refine GT_skip rfl rfl rfl rfl rfl (by decide) rfl rfl ?_
                  refine GT_st rfl rfl rfl rfl (V_pick_f rfl rfl rfl) ?_
                  refine GT_st rfl rfl rfl rfl (V_move rfl rfl) ?_
                  refine GT_skip rfl rfl rfl rfl rfl (by decide) rfl rfl ?_
                  refine GT_skip rfl rfl rfl rfl rfl (by decide) rfl rfl ?_
                  refine GT_skip rfl rfl rfl rfl rfl (by decide) rfl rfl ?_
                  refine GT_st rfl rfl rfl rfl (V_pick_f rfl rfl rfl) ?_
                  refine GT_st rfl rfl rfl rfl (V_move rfl rfl) ?_
                  refine GT_skip rfl rfl rfl rfl rfl (by decide) rfl rfl ?_
                  refine GT_skip rfl rfl rfl rfl rfl (by decide) rfl rfl ?_
                  refine GT_skip rfl rfl rfl rfl rfl (by decide) rfl rfl ?_
                  refine GT_st rfl rfl rfl rfl (V_pick_f rfl rfl rfl) ?_
                  refine GT_st rfl rfl rfl rfl (V_move rfl rfl) ?_
                  refine GT_skip rfl rfl rfl rfl rfl (by decide) rfl rfl ?_
                  refine GT_skip rfl rfl rfl rfl rfl (by decide) rfl rfl ?_
                  refine GT_skip rfl rfl rfl rfl rfl (by decide) rfl rfl ?_
                  refine GT_st rfl rfl rfl rfl (V_pick_f rfl rfl rfl) ?_
                  refine GT_st rfl rfl rfl rfl (V_move rfl rfl) ?_
                  refine GT_skip rfl rfl rfl rfl rfl (by decide) rfl rfl ?_
                  refine GT_skip rfl rfl rfl rfl rfl (by decide) rfl rfl ?_
                  refine GT_skip rfl rfl rfl rfl rfl (by decide) rfl rfl ?_
                  refine GT_st rfl rfl rfl rfl (V_pick_f rfl rfl rfl) ?_
                  refine GT_st rfl rfl rfl rfl (V_assign rfl rfl) ?_
                  refine GT_nil ?_
                  refine GE_ret Tryd.func52 rfl (fun w hw => ⟨?_, hw.nil⟩)
                  refine hd _ ?_; first | exact dF _ (fun e => by omega) | exact dF _ (fun e => by have := e.2.2.2.1; unfold tkOf at this; omega) | exact dT _ ⟨fun e => by omega, fun e => by refine ⟨⟨?_, ?_⟩, ?_, ?_, ?_, ⟨?_, ?_⟩, ⟨?_, ?_⟩, ⟨?_, ?_⟩, ?_, ?_⟩ <;> omega⟩
theorem C_rLong {x : Prt} (h : -4000000000000 ≤ lng x ∧ lng x ≤ 4000000000000) : Con0 Tryd.prog 56 [.agg #[I x.tk, I x.fr, I x.to, I x.gap, I x.inn, I x.out, I x.lev]] w (I (lng x)) := by
  unfold lng at h ⊢
  refine Ret_of (vs := [_]) hm none' Tryd.func56 rfl Tryd.ntmps56 rfl ?_
  dsimp only [slotsOf]
  refine GE_seq ?_
  refine GE_plain (.ld 0 [] (.st 1 .nil)) rfl ?_
  refine GT_box (z := [_, _, _, _, _, _, _]) rfl rfl rfl rfl rfl rfl rfl (fun _ => GR_nil) (fun b1 => ?_)
  refine GT_st rfl rfl rfl rfl (V_assign rfl rfl) ?_
  refine GT_nil ?_
  refine GE_seq ?_
  refine GE_plain (.st 0 (.st 1 (.st 2 (.st 3 (.st 4 (.st 5 .nil)))))) rfl ?_
  first | refine GT_st rfl rfl rfl rfl (V_field rfl rfl fo_30_2) ?_ | refine GT_st rfl rfl rfl rfl (V_fieldA rfl rfl fo_30_2) ?_
  refine GT_st rfl rfl rfl rfl (V_load rfl rfl ag_3 (CellAt.item rfl)) ?_
  first | refine GT_st rfl rfl rfl rfl (V_field rfl rfl fo_30_1) ?_ | refine GT_st rfl rfl rfl rfl (V_fieldA rfl rfl fo_30_1) ?_
  refine GT_st rfl rfl rfl rfl (V_load rfl rfl ag_3 (CellAt.item rfl)) ?_
  refine GT_st rfl rfl rfl rfl (V_sub rfl rfl rfl (wrap_i64 (by omega))) ?_
  refine GT_st rfl rfl rfl rfl (V_assign rfl rfl) ?_
  refine GT_nil ?_
  refine GE_ret Tryd.func56 rfl (fun w hw => ⟨?_, hw.nil⟩)
  rfl
variable {l : List Tk} {p : List Prt}
theorem C_rstarts (hg : Gd l p) (hp : RdL w 7 ePrt A2 p) : Con Tryd.prog 59 [.slice A2 p.length c2] w (fun y : Option Addr × Nat × Items => Own 1 3 eI (bgns p p.length) (.slice y.1 p.length y.2.1) y.2.2)
    (fun y => .tuple #[.slice y.1 p.length y.2.1, I (fin p)]) (fun y => y.2.2) := by
  refine Ret_of (vs := [_]) hm none' Tryd.func59 rfl Tryd.ntmps59 rfl ?_
  dsimp only [slotsOf]
  refine GE_seq ?_
  refine GE_plain (.st 0 (.st 1 .nil)) rfl ?_
  refine GT_st rfl rfl rfl rfl (V_assign rfl rfl) ?_
  refine GT_st rfl rfl rfl rfl (V_assign rfl rfl) ?_
  refine GT_nil ?_
  refine GE_seq ?_
  refine GE_plain (.st 0 .nil) rfl ?_
  refine GT_st rfl rfl rfl rfl (V_assign rfl rfl) ?_
  refine GT_nil ?_
  refine GE_seq ?_
  refine GE_plain (.st 0 .nil) rfl ?_
  refine GT_st rfl rfl rfl rfl (V_assign rfl rfl) ?_
  refine GT_nil ?_
  refine GE_seq ?_
  refine GE_seq ?_
  refine GE_plain (.st 0 .nil) rfl ?_
  refine GT_st rfl rfl rfl rfl (V_assign rfl rfl) ?_
  refine GT_nil ?_
  refine GE_block ?_
  refine GE_to (GE_loop (ι := Nat × Option Addr × Nat × Items) (fun x => p.length - x.1) (fun x => [(0, .slice A2 p.length c2), (4, .slice x.2.1 x.1 x.2.2.1), (5, I (fin (p.take x.1))), (6, I x.1)]) (fun x => x.2.2.2) (fun x => x.1 ≤ p.length ∧ Own 1 3 eI (bgns p x.1) (.slice x.2.1 x.1 x.2.2.1) x.2.2.2) ?_ (0, none, 0, []) ?_) ⟨rfl, rfl, rfl, rfl, trivial⟩ HS.nil
  · rintro ⟨k, A', c', I'⟩ ⟨hk, hO⟩ ih; dsimp only at hk hO ih ⊢; have hfb := gd_fin hg hk; have hmost := hg.most
    refine GE_seq ?_
    refine GE_seq ?_
    refine GE_plain (.st 0 (.st 1 (.st 2 (.st 3 .nil)))) rfl ?_
    refine GT_st rfl rfl rfl rfl (V_move rfl rfl) ?_
    refine GT_st rfl rfl rfl rfl (V_move rfl rfl) ?_
    refine GT_st rfl rfl rfl rfl (V_len rfl Tryd.underlying31 rfl) ?_
    refine GT_st rfl rfl rfl rfl (V_lss rfl rfl rfl) ?_
    refine GT_nil ?_
    first | refine GE_condNot rfl (fun q1 => ?_) (fun q1 => ?_) | refine GE_cond rfl (fun q1 => ?_) (fun q1 => ?_) | refine GE_condNotB rfl (fun q1 => ?_) (fun q1 => ?_) | refine GE_condB rfl (fun q1 => ?_) (fun q1 => ?_)
    · have hkl : k < p.length := (by omega); have hpr := gd_prt hg hkl; obtain ⟨hb1, hb2, hb3, hb4⟩ := gd_bgn hg hkl
      refine GE_skip ?_
      refine GE_seq ?_
      refine GE_block ?_
      refine GE_seq ?_
      refine GE_slots (L' := [(0, _), (4, _), (5, _), (6, _)]) ⟨rfl, rfl, rfl, rfl, trivial⟩ ?_
      refine GE_plain (.st 0 (.st 1 (.st 2 (.st 3 (.st 4 (.st 5 (.st 6 (.st 7 (.ld 8 [] (.ld 9 [] (.ld 10 [] .nil))))))))))) rfl ?_
      refine GT_st rfl rfl rfl rfl (V_move rfl rfl) ?_
      refine GT_st rfl rfl rfl rfl (V_move rfl rfl) ?_
      refine GT_st rfl rfl rfl rfl (V_move rfl rfl) ?_
      refine GT_st rfl rfl rfl rfl (V_move rfl rfl) ?_
      refine GT_st rfl rfl rfl rfl (V_index rfl rfl rfl Tryd.underlying31 sz_30 (k := k) rfl hkl (hp.isSome hkl)) ?_
      first | refine GT_st rfl rfl rfl rfl (V_field rfl rfl fo_30_3) ?_ | refine GT_st rfl rfl rfl rfl (V_fieldA rfl rfl fo_30_3) ?_
      refine GT_st rfl rfl rfl rfl (V_load rfl rfl ag_3 (hp.at1 noM hkl (show _ = some (I (pt p k).gap) from rfl))) ?_
      refine GT_st rfl rfl rfl rfl (V_add rfl rfl rfl ((wrap_i64 (by omega)).trans hb4.symm)) ?_
      refine GT_buildSlice (z := [_]) rfl rfl rfl rfl rfl Tryd.underlying62 zc_3 sz_3 (by decide) rfl rfl (fun _ => GR_nil) (fun b21 => ?_)
      refine GT_append (enc := eI) (m := [bgn p k]) rfl rfl rfl rfl rfl rfl rfl hO (fun w m => RdL.own' m eI_len) Tryd.underlying62 zc_3 sz_3 ⟨rfl, by decide⟩ by_3 ⟨by rw [bgns_len]; simp only [List.length_singleton]; omega, by rw [bgns_len]; simp only [List.length_singleton]; omega⟩ eI_len eI_one (fun _ _ _ _ => GR_nil) (fun A2' c2' I2' hO2 => ?_)
      rw [← bgns_succ, bgns_len] at hO2 ⊢
      refine GT_ldv rfl rfl rfl rfl rfl (V_assign rfl rfl) (GR_nil) ?_
      refine GT_nil ?_
      refine GE_slots (L' := [(0, _), (4, _), (6, _)]) ⟨rfl, rfl, rfl, trivial⟩ ?_
      refine GE_drawn (.st 0 (.st 1 (.st 2 (.st 3 (.st 4 (.st 5 (.st 6 (.st 7 (.ld 8 [0, 1, 2, 3] (.st 9 (.st 10 .nil))))))))))) [8] (by decide +kernel) ?_
      refine GT_st rfl rfl rfl rfl (V_move rfl rfl) ?_
      refine GT_st rfl rfl rfl rfl (V_move rfl rfl) ?_
      refine GT_st rfl rfl rfl rfl (V_index rfl rfl rfl Tryd.underlying62 sz_3 (k := k) rfl (by omega) (hO2.isSome (k := k) (by rw [bgns_len]; omega))) ?_
      refine GT_st rfl rfl rfl rfl (V_load rfl rfl ag_3 (CellAt.own0 (k := k) hO2 eI_len (by rw [bgns_len]; omega) (by rw [bgns_get (by omega)]; rfl))) ?_
      refine GT_st rfl rfl rfl rfl (V_move rfl rfl) ?_
      refine GT_st rfl rfl rfl rfl (V_move rfl rfl) ?_
      refine GT_st rfl rfl rfl rfl (V_index rfl rfl rfl Tryd.underlying31 sz_30 (k := k) rfl hkl (hp.isSome hkl)) ?_
      refine GT_st rfl rfl rfl rfl (V_loadN (vs := [_, _, _, _, _, _, _]) rfl rfl ag_30 sz_30 rfl (show CellsAt _ _ _ (ePrt (pt p k)) from hp.ats noM hkl)) ?_
      refine GT_call0 rfl rfl rfl rfl rfl rfl rfl rfl rn_56 (fun w hw => C_rLong (x := pt p k) (by omega)) (GR_cons rfl rfl rfl rfl (V_move rfl rfl) (GR_cons rfl rfl rfl rfl (V_move rfl rfl) (GR_cons rfl rfl rfl rfl (V_index rfl rfl rfl Tryd.underlying62 sz_3 (k := k) rfl (by omega) (hO2.isSome (k := k) (by rw [bgns_len]; omega))) (GR_cons rfl rfl rfl rfl (V_load rfl rfl ag_3 (CellAt.own0 (k := k) hO2 eI_len (by rw [bgns_len]; omega) (by rw [bgns_get (by omega)]; rfl))) (GR_nil))))) ?_
      refine GT_st rfl rfl rfl rfl (V_add rfl rfl rfl (wrap_i64 (by omega))) ?_
      refine GT_st rfl rfl rfl rfl (V_assign rfl rfl) ?_
      refine GT_nil ?_
      refine GE_inBlock ?_
      refine GE_slots (L' := [(0, _), (4, _), (5, _), (6, _)]) ⟨rfl, rfl, rfl, rfl, trivial⟩ ?_
      refine GE_plain (.st 0 (.st 1 (.ld 2 [] .nil))) rfl ?_
      refine GT_st rfl rfl rfl rfl (V_move rfl rfl) ?_
      refine GT_st rfl rfl rfl rfl (V_add rfl rfl rfl (wrap_i64 (by omega))) ?_
      refine GT_ldv rfl rfl rfl rfl rfl (V_assign rfl rfl) (GR_nil) ?_
      refine GT_nil ?_
      exact GE_to (ih (k + 1, A2', c2', I2') ⟨by dsimp only; omega, hO2⟩ (by dsimp only; omega)) ⟨rfl, rfl, lookI rfl (by rw [fin_take hkl, hb3]), rfl, trivial⟩ HS.last
    · obtain rfl : k = p.length := (by omega); rw [fin_all]
      refine GE_exit rfl ?_
      refine GE_seq ?_
      refine GE_slots (L' := [(4, _), (5, _)]) ⟨rfl, rfl, trivial⟩ ?_
      refine GE_plain (.st 0 (.st 1 (.st 2 (.st 3 .nil)))) rfl ?_
      refine GT_st rfl rfl rfl rfl (V_move rfl rfl) ?_
      refine GT_st rfl rfl rfl rfl (V_move rfl rfl) ?_
      refine GT_st rfl rfl rfl rfl (V_assign rfl rfl) ?_
      refine GT_st rfl rfl rfl rfl (V_assign rfl rfl) ?_
      refine GT_nil ?_
      refine GE_ret Tryd.func59 ⟨_, _, rfl, rfl, rfl⟩ (fun w hw => ?_)
      exact ⟨(A', c', I'), hO, rfl, hw⟩
  · exact ⟨Nat.zero_le _, Own.nil⟩
set_option maxRecDepth 20000 in
set_option maxHeartbeats 2000000 in
theorem C_rpossible (hg : Gd l p) (hp : RdL w 7 ePrt A2 p) : Con0 Tryd.prog 53 [.slice A2 p.length c2] w (.bool (decide (Poss p))) := by
  refine Ret_of (vs := [_]) hm none' Tryd.func53 rfl Tryd.ntmps53 rfl ?_
  dsimp only [slotsOf]
  refine GE_seq ?_
  refine GE_plain (.st 0 .nil) rfl ?_
  refine GT_st rfl rfl rfl rfl (V_assign rfl rfl) ?_
  refine GT_nil ?_
  refine GE_seq ?_
  refine GE_plain (.st 0 (.ld 1 [] (.st 2 (.st 3 (.st 4 (.st 5 (.st 6 .nil))))))) rfl ?_
  refine GT_st rfl rfl rfl rfl (V_move rfl rfl) ?_
  refine GT_call rfl rfl rfl rfl rfl rfl rfl rfl rn_59 (fun w hw => C_rstarts hg (hp.sh hw)) (fun _ _ => GR_nil) (fun y hy => ?_)
  refine GT_st rfl rfl rfl rfl (V_move rfl rfl) ?_
  refine GT_st rfl rfl rfl rfl (V_extract rfl rfl rfl) ?_
  refine GT_st rfl rfl rfl rfl (V_extract rfl rfl rfl) ?_
  refine GT_st rfl rfl rfl rfl (V_assign rfl rfl) ?_
  refine GT_st rfl rfl rfl rfl (V_assign rfl rfl) ?_
  refine GT_nil ?_
  refine GE_seq ?_
  refine GE_seq ?_
  refine GE_slots (L' := [(0, _), (3, _), (4, _)]) ⟨rfl, rfl, rfl, trivial⟩ ?_
  refine GE_plain (.st 0 .nil) rfl ?_
  refine GT_st rfl rfl rfl rfl (V_assign rfl rfl) ?_
  refine GT_nil ?_
  refine GE_block ?_
  refine GE_to (GE_loop (ι := Nat) (fun i => p.length - i) (fun i => [(0, .slice A2 p.length c2), (3, .slice y.1 p.length y.2.1), (4, I (fin p)), (5, I i)]) (fun i => y.2.2) (fun i => i ≤ p.length ∧ ∀ j, j < i → posOk p j) ?_ 0 ?_) ⟨rfl, rfl, rfl, rfl, trivial⟩ HS.last
  · rintro i ⟨hi, hps⟩ ih; have hmost := hg.most; have bl := bgns_len p p.length
    refine GE_seq ?_
    refine GE_seq ?_
    refine GE_plain (.st 0 (.st 1 (.st 2 (.st 3 .nil)))) rfl ?_
    refine GT_st rfl rfl rfl rfl (V_move rfl rfl) ?_
    refine GT_st rfl rfl rfl rfl (V_move rfl rfl) ?_
    refine GT_st rfl rfl rfl rfl (V_len rfl Tryd.underlying31 rfl) ?_
    refine GT_st rfl rfl rfl rfl (V_lss rfl rfl rfl) ?_
    refine GT_nil ?_
    first | refine GE_condNot rfl (fun q1 => ?_) (fun q1 => ?_) | refine GE_cond rfl (fun q1 => ?_) (fun q1 => ?_) | refine GE_condNotB rfl (fun q1 => ?_) (fun q1 => ?_) | refine GE_condB rfl (fun q1 => ?_) (fun q1 => ?_)
    · have hil : i < p.length := (by omega); have hpr := gd_prt hg hil; have hpr1 := gd_prt hg (i := i - 1) (by omega); have hpr2 := gd_prt hg (i := i - 2) (by omega); have hbb := gd_bgn hg hil; have hb1 := gd_bgn hg (i := i - 1) (by omega); have hb2 := gd_bgn hg (i := i - 2) (by omega); have hbs : 0 < i → bgn p i = en p (i - 1) + (pt p i).gap := (fun h0 => bgn_succ h0 hil)
      refine GE_skip ?_
      refine GE_seq ?_
      refine GE_block ?_
      refine GE_seq ?_
      refine GE_slots (L' := [(0, _), (3, _), (4, _), (5, _)]) ⟨rfl, rfl, rfl, rfl, trivial⟩ ?_
      refine GE_drawn (.st 0 (.st 1 (.st 2 (.st 3 (.st 4 (.st 5 (.st 6 (.st 7 (.st 8 (.st 9 (.st 10 (.st 11 (.st 12 (.st 13 (.st 14 (.st 15 (.st 16 (.st 17 (.st 18 (.st 19 (.st 20 (.st 21 (.ld 22 [13, 14, 15, 16, 17] (.st 23 (.st 24 (.st 25 (.st 26 (.st 27 (.st 28 (.st 29 (.st 30 (.st 31 (.st 32 (.st 33 (.st 34 (.st 35 (.ld 36 [26, 27, 28, 29, 30] (.st 37 (.st 38 (.st 39 (.st 40 (.st 41 (.st 42 (.st 43 (.st 44 (.st 45 (.st 46 (.st 47 (.st 48 (.st 49 (.st 50 (.st 51 (.st 52 (.st 53 (.st 54 (.st 55 (.st 56 (.st 57 (.st 58 (.st 59 (.ld 60 [46, 47, 48, 49, 50, 51, 52, 53, 54] (.st 61 (.st 62 (.st 63 (.st 64 .nil))))))))))))))))))))))))))))))))))))))))))))))))))))))))))))))))) [22, 36, 60] (by decide +kernel) ?_
      refine GT_st rfl rfl rfl rfl (V_move rfl rfl) ?_
      refine GT_st rfl rfl rfl rfl (V_eql rfl rfl rfl) ?_
      refine GT_st rfl rfl rfl rfl (V_move rfl rfl) ?_
      first | refine GT_splitNot (d := 19) rfl (fun q2 => ?_) (fun q2 => ?_) | refine GT_split (d := 19) rfl (fun q2 => ?_) (fun q2 => ?_) | refine GT_splitNotB (d := 19) rfl (fun q2 => ?_) (fun q2 => ?_) | refine GT_splitB (d := 19) rfl (fun q2 => ?_) (fun q2 => ?_)
      · skip
        refine GT_st_g rfl rfl rfl rfl rfl rfl rfl (V_move rfl rfl) ?_
        refine GT_st_g rfl rfl rfl rfl rfl rfl rfl (V_move rfl rfl) ?_
        refine GT_st_g rfl rfl rfl rfl rfl rfl rfl (V_index rfl rfl rfl Tryd.underlying62 sz_3 (k := i) rfl hil (hy.isSome (k := i) (by omega))) ?_
        refine GT_st_g rfl rfl rfl rfl rfl rfl rfl (V_load rfl rfl ag_3 (CellAt.own0 (k := i) hy eI_len (by omega) (by rw [bgns_get hil]; rfl))) ?_
        refine GT_st_g rfl rfl rfl rfl rfl rfl rfl (V_lss rfl rfl rfl) ?_
        refine GT_st rfl rfl rfl rfl (V_pick_t rfl rfl rfl) ?_
        refine GT_st rfl rfl rfl rfl (V_move rfl rfl) ?_
        first | refine GT_splitNot (d := 26) rfl (fun q3 => ?_) (fun q3 => ?_) | refine GT_split (d := 26) rfl (fun q3 => ?_) (fun q3 => ?_) | refine GT_splitNotB (d := 26) rfl (fun q3 => ?_) (fun q3 => ?_) | refine GT_splitB (d := 26) rfl (fun q3 => ?_) (fun q3 => ?_)
        · skip
          refine GT_skip rfl rfl rfl rfl rfl (by decide) rfl rfl ?_
          refine GT_skip rfl rfl rfl rfl rfl (by decide) rfl rfl ?_
          refine GT_skip rfl rfl rfl rfl rfl (by decide) rfl rfl ?_
          refine GT_skip rfl rfl rfl rfl rfl (by decide) rfl rfl ?_
          refine GT_skip rfl rfl rfl rfl rfl (by decide) rfl rfl ?_
          refine GT_skip rfl rfl rfl rfl rfl (by decide) rfl rfl ?_
          refine GT_skip rfl rfl rfl rfl rfl (by decide) rfl rfl ?_
          refine GT_skip rfl rfl rfl rfl rfl (by decide) rfl rfl ?_
          refine GT_skip rfl rfl rfl rfl rfl (by decide) rfl rfl ?_
          refine GT_skip rfl rfl rfl rfl rfl (by decide) rfl rfl ?_
          refine GT_skip rfl rfl rfl rfl rfl (by decide) rfl rfl ?_
          refine GT_skip rfl rfl rfl rfl rfl (by decide) rfl rfl ?_
          refine GT_skip_ld rfl rfl rfl rfl rfl (by decide) rfl rfl rfl (GR_skip rfl rfl rfl rfl rfl (by decide) rfl rfl (GR_skip rfl rfl rfl rfl rfl (by decide) rfl rfl (GR_skip rfl rfl rfl rfl rfl (by decide) rfl rfl (GR_skip rfl rfl rfl rfl rfl (by decide) rfl rfl (GR_skip rfl rfl rfl rfl rfl (by decide) rfl rfl (GR_nil)))))) ?_
          refine GT_skip rfl rfl rfl rfl rfl (by decide) rfl rfl ?_
          refine GT_skip rfl rfl rfl rfl rfl (by decide) rfl rfl ?_
          refine GT_skip rfl rfl rfl rfl rfl (by decide) rfl rfl ?_
          refine GT_skip rfl rfl rfl rfl rfl (by decide) rfl rfl ?_
          refine GT_skip rfl rfl rfl rfl rfl (by decide) rfl rfl ?_
          refine GT_skip rfl rfl rfl rfl rfl (by decide) rfl rfl ?_
          refine GT_skip rfl rfl rfl rfl rfl (by decide) rfl rfl ?_
          refine GT_skip rfl rfl rfl rfl rfl (by decide) rfl rfl ?_
          refine GT_skip rfl rfl rfl rfl rfl (by decide) rfl rfl ?_
          refine GT_skip rfl rfl rfl rfl rfl (by decide) rfl rfl ?_
          refine GT_skip rfl rfl rfl rfl rfl (by decide) rfl rfl ?_
          refine GT_skip rfl rfl rfl rfl rfl (by decide) rfl rfl ?_
          refine GT_skip rfl rfl rfl rfl rfl (by decide) rfl rfl ?_
          refine GT_skip_ld rfl rfl rfl rfl rfl (by decide) rfl rfl rfl (GR_skip rfl rfl rfl rfl rfl (by decide) rfl rfl (GR_skip rfl rfl rfl rfl rfl (by decide) rfl rfl (GR_skip rfl rfl rfl rfl rfl (by decide) rfl rfl (GR_skip rfl rfl rfl rfl rfl (by decide) rfl rfl (GR_skip rfl rfl rfl rfl rfl (by decide) rfl rfl (GR_nil)))))) ?_
          refine GT_skip rfl rfl rfl rfl rfl (by decide) rfl rfl ?_
          refine GT_skip rfl rfl rfl rfl rfl (by decide) rfl rfl ?_
          refine GT_skip rfl rfl rfl rfl rfl (by decide) rfl rfl ?_
          refine GT_skip rfl rfl rfl rfl rfl (by decide) rfl rfl ?_
          refine GT_st rfl rfl rfl rfl (V_pick_t rfl rfl rfl) ?_
          refine GT_st rfl rfl rfl rfl (V_move rfl rfl) ?_
          refine GT_skip rfl rfl rfl rfl rfl (by decide) rfl rfl ?_
          refine GT_skip rfl rfl rfl rfl rfl (by decide) rfl rfl ?_
          refine GT_skip rfl rfl rfl rfl rfl (by decide) rfl rfl ?_
          refine GT_skip rfl rfl rfl rfl rfl (by decide) rfl rfl ?_
          refine GT_skip rfl rfl rfl rfl rfl (by decide) rfl rfl ?_
          refine GT_skip rfl rfl rfl rfl rfl (by decide) rfl rfl ?_
          refine GT_skip rfl rfl rfl rfl rfl (by decide) rfl rfl ?_
          refine GT_skip rfl rfl rfl rfl rfl (by decide) rfl rfl ?_
          refine GT_skip rfl rfl rfl rfl rfl (by decide) rfl rfl ?_
          refine GT_skip rfl rfl rfl rfl rfl (by decide) rfl rfl ?_
          refine GT_skip rfl rfl rfl rfl rfl (by decide) rfl rfl ?_
          refine GT_skip rfl rfl rfl rfl rfl (by decide) rfl rfl ?_
          refine GT_skip rfl rfl rfl rfl rfl (by decide) rfl rfl ?_
          refine GT_skip rfl rfl rfl rfl rfl (by decide) rfl rfl ?_
          refine GT_skip rfl rfl rfl rfl rfl (by decide) rfl rfl ?_
          refine GT_skip rfl rfl rfl rfl rfl (by decide) rfl rfl ?_
          refine GT_skip rfl rfl rfl rfl rfl (by decide) rfl rfl ?_
          refine GT_skip_ld rfl rfl rfl rfl rfl (by decide) rfl rfl rfl (GR_skip rfl rfl rfl rfl rfl (by decide) rfl rfl (GR_skip rfl rfl rfl rfl rfl (by decide) rfl rfl (GR_skip rfl rfl rfl rfl rfl (by decide) rfl rfl (GR_skip rfl rfl rfl rfl rfl (by decide) rfl rfl (GR_skip rfl rfl rfl rfl rfl (by decide) rfl rfl (GR_skip rfl rfl rfl rfl rfl (by decide) rfl rfl (GR_skip rfl rfl rfl rfl rfl (by decide) rfl rfl (GR_skip rfl rfl rfl rfl rfl (by decide) rfl rfl (GR_skip rfl rfl rfl rfl rfl (by decide) rfl rfl (GR_nil)))))))))) ?_
          refine GT_skip rfl rfl rfl rfl rfl (by decide) rfl rfl ?_
          refine GT_skip rfl rfl rfl rfl rfl (by decide) rfl rfl ?_
          refine GT_skip rfl rfl rfl rfl rfl (by decide) rfl rfl ?_
          refine GT_st rfl rfl rfl rfl (V_pick_t rfl rfl rfl) ?_
          refine GT_nil ?_
          refine GE_cond_t rfl ?_
          refine GE_seq ?_
          refine GE_slots (L' := []) trivial ?_
          refine GE_plain (.st 0 .nil) rfl ?_
          refine GT_st rfl rfl rfl rfl (V_assign rfl rfl) ?_
          refine GT_nil ?_
          refine GE_ret Tryd.func53 rfl (fun w hw => ⟨?_, hw.nil⟩)
          first | (rw [decide_eq_false]; intro hP; have := hP.1 i hil; unfold posOk at this; omega) | (refine congrArg Value.bool (decide_eq_decide.2 ⟨fun h => ⟨fun j hj => hps j (by omega), h⟩, fun h => h.2⟩))
        · skip
          refine GT_st_g rfl rfl rfl rfl rfl rfl rfl (V_move rfl rfl) ?_
          refine GT_st_g rfl rfl rfl rfl rfl rfl rfl (V_gtr rfl rfl rfl) ?_
          refine GT_st_g rfl rfl rfl rfl rfl rfl rfl (V_move rfl rfl) ?_
          first | refine GT_splitNot (d := 29) rfl (fun q4 => ?_) (fun q4 => ?_) | refine GT_split (d := 29) rfl (fun q4 => ?_) (fun q4 => ?_) | refine GT_splitNotB (d := 29) rfl (fun q4 => ?_) (fun q4 => ?_) | refine GT_splitB (d := 29) rfl (fun q4 => ?_) (fun q4 => ?_)
          · skip
            refine GT_st_g rfl rfl rfl rfl rfl rfl rfl (V_move rfl rfl) ?_
            refine GT_st_g rfl rfl rfl rfl rfl rfl rfl (V_move rfl rfl) ?_
            refine GT_st_g rfl rfl rfl rfl rfl rfl rfl (V_index rfl rfl rfl Tryd.underlying31 sz_30 (k := i) rfl hil (hp.isSome hil)) ?_
            first | refine GT_st_g rfl rfl rfl rfl rfl rfl rfl (V_field rfl rfl fo_30_3) ?_ | refine GT_st_g rfl rfl rfl rfl rfl rfl rfl (V_fieldA rfl rfl fo_30_3) ?_
            refine GT_st_g rfl rfl rfl rfl rfl rfl rfl (V_load rfl rfl ag_3 (hp.at1 noM hil (show _ = some (I (pt p i).gap) from rfl))) ?_
            refine GT_st_g rfl rfl rfl rfl rfl rfl rfl (V_move rfl rfl) ?_
            refine GT_st_g rfl rfl rfl rfl rfl rfl rfl (V_move rfl rfl) ?_
            refine GT_st_g rfl rfl rfl rfl rfl rfl rfl (V_index rfl rfl rfl Tryd.underlying31 sz_30 (k := i) rfl hil (hp.isSome hil)) ?_
            refine GT_st_g rfl rfl rfl rfl rfl rfl rfl (V_loadN (vs := [_, _, _, _, _, _, _]) rfl rfl ag_30 sz_30 rfl (show CellsAt _ _ _ (ePrt (pt p i)) from hp.ats noM hil)) ?_
            refine GT_call0_g rfl rfl rfl rfl rfl rfl rfl rfl rfl rfl rfl rn_56 (fun w hw => C_rLong (x := pt p i) (by omega)) (GR_cons_g rfl rfl rfl rfl rfl rfl rfl (V_move rfl rfl) (GR_cons_g rfl rfl rfl rfl rfl rfl rfl (V_move rfl rfl) (GR_cons_g rfl rfl rfl rfl rfl rfl rfl (V_index rfl rfl rfl Tryd.underlying31 sz_30 (k := i) rfl hil (hp.isSome hil)) (GR_cons_g rfl rfl rfl rfl rfl rfl rfl ((by first | exact V_field rfl rfl fo_30_3 | exact V_fieldA rfl rfl fo_30_3)) (GR_cons_g rfl rfl rfl rfl rfl rfl rfl (V_load rfl rfl ag_3 (hp.at1 noM hil (show _ = some (I (pt p i).gap) from rfl))) (GR_nil)))))) ?_
            refine GT_st_g rfl rfl rfl rfl rfl rfl rfl (V_neg rfl rfl (wrap_i64 (by omega))) ?_
            refine GT_st_g rfl rfl rfl rfl rfl rfl rfl (V_lss rfl rfl rfl) ?_
            refine GT_st_g rfl rfl rfl rfl rfl rfl rfl (V_move rfl rfl) ?_
            first | refine GT_splitNot (d := 42) rfl (fun q5 => ?_) (fun q5 => ?_) | refine GT_split (d := 42) rfl (fun q5 => ?_) (fun q5 => ?_) | refine GT_splitNotB (d := 42) rfl (fun q5 => ?_) (fun q5 => ?_) | refine GT_splitB (d := 42) rfl (fun q5 => ?_) (fun q5 => ?_)
            · skip
              refine GT_skip rfl rfl rfl rfl rfl (by decide) rfl rfl ?_
              refine GT_skip rfl rfl rfl rfl rfl (by decide) rfl rfl ?_
              refine GT_skip rfl rfl rfl rfl rfl (by decide) rfl rfl ?_
              refine GT_skip rfl rfl rfl rfl rfl (by decide) rfl rfl ?_
              refine GT_skip rfl rfl rfl rfl rfl (by decide) rfl rfl ?_
              refine GT_skip rfl rfl rfl rfl rfl (by decide) rfl rfl ?_
              refine GT_skip rfl rfl rfl rfl rfl (by decide) rfl rfl ?_
              refine GT_skip rfl rfl rfl rfl rfl (by decide) rfl rfl ?_
              refine GT_skip rfl rfl rfl rfl rfl (by decide) rfl rfl ?_
              refine GT_skip rfl rfl rfl rfl rfl (by decide) rfl rfl ?_
              refine GT_skip_ld rfl rfl rfl rfl rfl (by decide) rfl rfl rfl (GR_skip rfl rfl rfl rfl rfl (by decide) rfl rfl (GR_skip rfl rfl rfl rfl rfl (by decide) rfl rfl (GR_skip rfl rfl rfl rfl rfl (by decide) rfl rfl (GR_skip rfl rfl rfl rfl rfl (by decide) rfl rfl (GR_skip rfl rfl rfl rfl rfl (by decide) rfl rfl (GR_nil)))))) ?_
              refine GT_skip rfl rfl rfl rfl rfl (by decide) rfl rfl ?_
              refine GT_skip rfl rfl rfl rfl rfl (by decide) rfl rfl ?_
              refine GT_st_g rfl rfl rfl rfl rfl rfl rfl (V_pick_t rfl rfl rfl) ?_
              refine GT_st_g rfl rfl rfl rfl rfl rfl rfl (V_pick_t rfl rfl rfl) ?_
              refine GT_st rfl rfl rfl rfl (V_pick_f rfl rfl rfl) ?_
              refine GT_st rfl rfl rfl rfl (V_move rfl rfl) ?_
              refine GT_skip rfl rfl rfl rfl rfl (by decide) rfl rfl ?_
              refine GT_skip rfl rfl rfl rfl rfl (by decide) rfl rfl ?_
              refine GT_skip rfl rfl rfl rfl rfl (by decide) rfl rfl ?_
              refine GT_skip rfl rfl rfl rfl rfl (by decide) rfl rfl ?_
              refine GT_skip rfl rfl rfl rfl rfl (by decide) rfl rfl ?_
              refine GT_skip rfl rfl rfl rfl rfl (by decide) rfl rfl ?_
              refine GT_skip rfl rfl rfl rfl rfl (by decide) rfl rfl ?_
              refine GT_skip rfl rfl rfl rfl rfl (by decide) rfl rfl ?_
              refine GT_skip rfl rfl rfl rfl rfl (by decide) rfl rfl ?_
              refine GT_skip rfl rfl rfl rfl rfl (by decide) rfl rfl ?_
              refine GT_skip rfl rfl rfl rfl rfl (by decide) rfl rfl ?_
              refine GT_skip rfl rfl rfl rfl rfl (by decide) rfl rfl ?_
              refine GT_skip rfl rfl rfl rfl rfl (by decide) rfl rfl ?_
              refine GT_skip rfl rfl rfl rfl rfl (by decide) rfl rfl ?_
              refine GT_skip rfl rfl rfl rfl rfl (by decide) rfl rfl ?_
              refine GT_skip rfl rfl rfl rfl rfl (by decide) rfl rfl ?_
              refine GT_skip rfl rfl rfl rfl rfl (by decide) rfl rfl ?_
              refine GT_skip_ld rfl rfl rfl rfl rfl (by decide) rfl rfl rfl (GR_skip rfl rfl rfl rfl rfl (by decide) rfl rfl (GR_skip rfl rfl rfl rfl rfl (by decide) rfl rfl (GR_skip rfl rfl rfl rfl rfl (by decide) rfl rfl (GR_skip rfl rfl rfl rfl rfl (by decide) rfl rfl (GR_skip rfl rfl rfl rfl rfl (by decide) rfl rfl (GR_skip rfl rfl rfl rfl rfl (by decide) rfl rfl (GR_skip rfl rfl rfl rfl rfl (by decide) rfl rfl (GR_skip rfl rfl rfl rfl rfl (by decide) rfl rfl (GR_skip rfl rfl rfl rfl rfl (by decide) rfl rfl (GR_nil)))))))))) ?_
              refine GT_skip rfl rfl rfl rfl rfl (by decide) rfl rfl ?_
              refine GT_skip rfl rfl rfl rfl rfl (by decide) rfl rfl ?_
              refine GT_skip rfl rfl rfl rfl rfl (by decide) rfl rfl ?_
              refine GT_st rfl rfl rfl rfl (V_pick_t rfl rfl rfl) ?_
              refine GT_nil ?_
              refine GE_cond_t rfl ?_
              refine GE_seq ?_
              refine GE_slots (L' := []) trivial ?_
              refine GE_plain (.st 0 .nil) rfl ?_
              refine GT_st rfl rfl rfl rfl (V_assign rfl rfl) ?_
              refine GT_nil ?_
              refine GE_ret Tryd.func53 rfl (fun w hw => ⟨?_, hw.nil⟩)
              first | (rw [decide_eq_false]; intro hP; have := hP.1 i hil; unfold posOk at this; omega) | (refine congrArg Value.bool (decide_eq_decide.2 ⟨fun h => ⟨fun j hj => hps j (by omega), h⟩, fun h => h.2⟩))
            · skip
              refine GT_st_g rfl rfl rfl rfl rfl rfl rfl (V_move rfl rfl) ?_
              refine GT_st_g rfl rfl rfl rfl rfl rfl rfl (V_move rfl rfl) ?_
              refine GT_st_g rfl rfl rfl rfl rfl rfl rfl (V_index rfl rfl rfl Tryd.underlying31 sz_30 (k := i) rfl hil (hp.isSome hil)) ?_
              first | refine GT_st_g rfl rfl rfl rfl rfl rfl rfl (V_field rfl rfl fo_30_3) ?_ | refine GT_st_g rfl rfl rfl rfl rfl rfl rfl (V_fieldA rfl rfl fo_30_3) ?_
              refine GT_st_g rfl rfl rfl rfl rfl rfl rfl (V_load rfl rfl ag_3 (hp.at1 noM hil (show _ = some (I (pt p i).gap) from rfl))) ?_
              refine GT_st_g rfl rfl rfl rfl rfl rfl rfl (V_move rfl rfl) ?_
              refine GT_st_g rfl rfl rfl rfl rfl rfl rfl (V_move rfl rfl) ?_
              refine GT_st_g rfl rfl rfl rfl rfl rfl rfl (V_sub rfl rfl rfl (wrap_i64 (by omega))) ?_
              refine GT_st_g rfl rfl rfl rfl rfl rfl rfl (V_index rfl rfl rfl Tryd.underlying31 sz_30 (k := i - 1) (by omega) (by omega) (hp.isSome (k := i - 1) (by omega))) ?_
              refine GT_st_g rfl rfl rfl rfl rfl rfl rfl (V_loadN (vs := [_, _, _, _, _, _, _]) rfl rfl ag_30 sz_30 rfl (show CellsAt _ _ _ (ePrt (pt p (i - 1))) from hp.ats noM (by omega))) ?_
              refine GT_call0_g rfl rfl rfl rfl rfl rfl rfl rfl rfl rfl rfl rn_56 (fun w hw => C_rLong (x := pt p (i - 1)) (by omega)) (GR_cons_g rfl rfl rfl rfl rfl rfl rfl (V_move rfl rfl) (GR_cons_g rfl rfl rfl rfl rfl rfl rfl (V_move rfl rfl) (GR_cons_g rfl rfl rfl rfl rfl rfl rfl (V_index rfl rfl rfl Tryd.underlying31 sz_30 (k := i) rfl hil (hp.isSome hil)) (GR_cons_g rfl rfl rfl rfl rfl rfl rfl ((by first | exact V_field rfl rfl fo_30_3 | exact V_fieldA rfl rfl fo_30_3)) (GR_cons_g rfl rfl rfl rfl rfl rfl rfl (V_load rfl rfl ag_3 (hp.at1 noM hil (show _ = some (I (pt p i).gap) from rfl))) (GR_nil)))))) ?_
              refine GT_st_g rfl rfl rfl rfl rfl rfl rfl (V_neg rfl rfl (wrap_i64 (by omega))) ?_
              refine GT_st_g rfl rfl rfl rfl rfl rfl rfl (V_lss rfl rfl rfl) ?_
              refine GT_st_g rfl rfl rfl rfl rfl rfl rfl (V_pick_f rfl rfl rfl) ?_
              refine GT_st_g rfl rfl rfl rfl rfl rfl rfl (V_pick_t rfl rfl rfl) ?_
              refine GT_st rfl rfl rfl rfl (V_pick_f rfl rfl rfl) ?_
              refine GT_st rfl rfl rfl rfl (V_move rfl rfl) ?_
              first | refine GT_splitNot (d := 59) rfl (fun q6 => ?_) (fun q6 => ?_) | refine GT_split (d := 59) rfl (fun q6 => ?_) (fun q6 => ?_) | refine GT_splitNotB (d := 59) rfl (fun q6 => ?_) (fun q6 => ?_) | refine GT_splitB (d := 59) rfl (fun q6 => ?_) (fun q6 => ?_)
              · skip
                refine GT_skip rfl rfl rfl rfl rfl (by decide) rfl rfl ?_
                refine GT_skip rfl rfl rfl rfl rfl (by decide) rfl rfl ?_
                refine GT_skip rfl rfl rfl rfl rfl (by decide) rfl rfl ?_
                refine GT_skip rfl rfl rfl rfl rfl (by decide) rfl rfl ?_
                refine GT_skip rfl rfl rfl rfl rfl (by decide) rfl rfl ?_
                refine GT_skip rfl rfl rfl rfl rfl (by decide) rfl rfl ?_
                refine GT_skip rfl rfl rfl rfl rfl (by decide) rfl rfl ?_
                refine GT_skip rfl rfl rfl rfl rfl (by decide) rfl rfl ?_
                refine GT_skip rfl rfl rfl rfl rfl (by decide) rfl rfl ?_
                refine GT_skip rfl rfl rfl rfl rfl (by decide) rfl rfl ?_
                refine GT_skip rfl rfl rfl rfl rfl (by decide) rfl rfl ?_
                refine GT_skip rfl rfl rfl rfl rfl (by decide) rfl rfl ?_
                refine GT_skip rfl rfl rfl rfl rfl (by decide) rfl rfl ?_
                refine GT_skip rfl rfl rfl rfl rfl (by decide) rfl rfl ?_
                refine GT_skip rfl rfl rfl rfl rfl (by decide) rfl rfl ?_
                refine GT_skip rfl rfl rfl rfl rfl (by decide) rfl rfl ?_
                refine GT_skip rfl rfl rfl rfl rfl (by decide) rfl rfl ?_
                refine GT_skip_ld rfl rfl rfl rfl rfl (by decide) rfl rfl rfl (GR_skip rfl rfl rfl rfl rfl (by decide) rfl rfl (GR_skip rfl rfl rfl rfl rfl (by decide) rfl rfl (GR_skip rfl rfl rfl rfl rfl (by decide) rfl rfl (GR_skip rfl rfl rfl rfl rfl (by decide) rfl rfl (GR_skip rfl rfl rfl rfl rfl (by decide) rfl rfl (GR_skip rfl rfl rfl rfl rfl (by decide) rfl rfl (GR_skip rfl rfl rfl rfl rfl (by decide) rfl rfl (GR_skip rfl rfl rfl rfl rfl (by decide) rfl rfl (GR_skip rfl rfl rfl rfl rfl (by decide) rfl rfl (GR_nil)))))))))) ?_
                refine GT_skip rfl rfl rfl rfl rfl (by decide) rfl rfl ?_
                refine GT_skip rfl rfl rfl rfl rfl (by decide) rfl rfl ?_
                refine GT_skip rfl rfl rfl rfl rfl (by decide) rfl rfl ?_
                refine GT_st rfl rfl rfl rfl (V_pick_t rfl rfl rfl) ?_
                refine GT_nil ?_
                refine GE_cond_t rfl ?_
                refine GE_seq ?_
                refine GE_slots (L' := []) trivial ?_
                refine GE_plain (.st 0 .nil) rfl ?_
                refine GT_st rfl rfl rfl rfl (V_assign rfl rfl) ?_
                refine GT_nil ?_
                refine GE_ret Tryd.func53 rfl (fun w hw => ⟨?_, hw.nil⟩)
                first | (rw [decide_eq_false]; intro hP; have := hP.1 i hil; unfold posOk at this; omega) | (refine congrArg Value.bool (decide_eq_decide.2 ⟨fun h => ⟨fun j hj => hps j (by omega), h⟩, fun h => h.2⟩))
              · skip
                refine GT_st_g rfl rfl rfl rfl rfl rfl rfl (V_move rfl rfl) ?_
                refine GT_st_g rfl rfl rfl rfl rfl rfl rfl (V_gtr rfl rfl rfl) ?_
                refine GT_st_g rfl rfl rfl rfl rfl rfl rfl (V_move rfl rfl) ?_
                first | refine GT_splitNot (d := 62) rfl (fun q7 => ?_) (fun q7 => ?_) | refine GT_split (d := 62) rfl (fun q7 => ?_) (fun q7 => ?_) | refine GT_splitNotB (d := 62) rfl (fun q7 => ?_) (fun q7 => ?_) | refine GT_splitB (d := 62) rfl (fun q7 => ?_) (fun q7 => ?_)
                · skip
                  refine GT_st_g rfl rfl rfl rfl rfl rfl rfl (V_move rfl rfl) ?_
                  refine GT_st_g rfl rfl rfl rfl rfl rfl rfl (V_move rfl rfl) ?_
                  refine GT_st_g rfl rfl rfl rfl rfl rfl rfl (V_index rfl rfl rfl Tryd.underlying62 sz_3 (k := i) rfl hil (hy.isSome (k := i) (by omega))) ?_
                  refine GT_st_g rfl rfl rfl rfl rfl rfl rfl (V_load rfl rfl ag_3 (CellAt.own0 (k := i) hy eI_len (by omega) (by rw [bgns_get hil]; rfl))) ?_
                  refine GT_st_g rfl rfl rfl rfl rfl rfl rfl (V_move rfl rfl) ?_
                  refine GT_st_g rfl rfl rfl rfl rfl rfl rfl (V_move rfl rfl) ?_
                  refine GT_st_g rfl rfl rfl rfl rfl rfl rfl (V_sub rfl rfl rfl (wrap_i64 (by omega))) ?_
                  refine GT_st_g rfl rfl rfl rfl rfl rfl rfl (V_index rfl rfl rfl Tryd.underlying62 sz_3 (k := i - 2) (by omega) (by omega) (hy.isSome (k := i) (by omega))) ?_
                  refine GT_st_g rfl rfl rfl rfl rfl rfl rfl (V_load rfl rfl ag_3 (CellAt.own0 (k := i - 2) hy eI_len (by omega) (by rw [bgns_get (by omega)]; rfl))) ?_
                  refine GT_st_g rfl rfl rfl rfl rfl rfl rfl (V_move rfl rfl) ?_
                  refine GT_st_g rfl rfl rfl rfl rfl rfl rfl (V_move rfl rfl) ?_
                  refine GT_st_g rfl rfl rfl rfl rfl rfl rfl (V_sub rfl rfl rfl (wrap_i64 (by omega))) ?_
                  refine GT_st_g rfl rfl rfl rfl rfl rfl rfl (V_index rfl rfl rfl Tryd.underlying31 sz_30 (k := i - 2) (by omega) (by omega) (hp.isSome (k := i - 2) (by omega))) ?_
                  refine GT_st_g rfl rfl rfl rfl rfl rfl rfl (V_loadN (vs := [_, _, _, _, _, _, _]) rfl rfl ag_30 sz_30 rfl (show CellsAt _ _ _ (ePrt (pt p (i - 2))) from hp.ats noM (by omega))) ?_
                  refine GT_call0_g rfl rfl rfl rfl rfl rfl rfl rfl rfl rfl rfl rn_56 (fun w hw => C_rLong (x := pt p (i - 2)) (by omega)) (GR_cons_g rfl rfl rfl rfl rfl rfl rfl (V_move rfl rfl) (GR_cons_g rfl rfl rfl rfl rfl rfl rfl (V_move rfl rfl) (GR_cons_g rfl rfl rfl rfl rfl rfl rfl (V_index rfl rfl rfl Tryd.underlying62 sz_3 (k := i) rfl hil (hy.isSome (k := i) (by omega))) (GR_cons_g rfl rfl rfl rfl rfl rfl rfl (V_load rfl rfl ag_3 (CellAt.own0 (k := i) hy eI_len (by omega) (by rw [bgns_get hil]; rfl))) (GR_cons_g rfl rfl rfl rfl rfl rfl rfl (V_move rfl rfl) (GR_cons_g rfl rfl rfl rfl rfl rfl rfl (V_move rfl rfl) (GR_cons_g rfl rfl rfl rfl rfl rfl rfl (V_sub rfl rfl rfl (wrap_i64 (by omega))) (GR_cons_g rfl rfl rfl rfl rfl rfl rfl (V_index rfl rfl rfl Tryd.underlying62 sz_3 (k := i - 2) (by omega) (by omega) (hy.isSome (k := i) (by omega))) (GR_cons_g rfl rfl rfl rfl rfl rfl rfl (V_load rfl rfl ag_3 (CellAt.own0 (k := i - 2) hy eI_len (by omega) (by rw [bgns_get (by omega)]; rfl))) (GR_nil)))))))))) ?_
                  refine GT_st_g rfl rfl rfl rfl rfl rfl rfl (V_add rfl rfl rfl (wrap_i64 (by omega))) ?_
                  refine GT_st_g rfl rfl rfl rfl rfl rfl rfl (V_lss rfl rfl rfl) ?_
                  refine GT_st_g rfl rfl rfl rfl rfl rfl rfl (V_pick_t rfl rfl rfl) ?_
                  refine GT_st rfl rfl rfl rfl (V_pick_f rfl rfl rfl) ?_
                  refine GT_nil ?_
                  first | refine GE_condNot rfl (fun q8 => ?_) (fun q8 => ?_) | refine GE_cond rfl (fun q8 => ?_) (fun q8 => ?_) | refine GE_condNotB rfl (fun q8 => ?_) (fun q8 => ?_) | refine GE_condB rfl (fun q8 => ?_) (fun q8 => ?_)
                  · skip
                    refine GE_seq ?_
                    refine GE_slots (L' := []) trivial ?_
                    refine GE_plain (.st 0 .nil) rfl ?_
                    refine GT_st rfl rfl rfl rfl (V_assign rfl rfl) ?_
                    refine GT_nil ?_
                    refine GE_ret Tryd.func53 rfl (fun w hw => ⟨?_, hw.nil⟩)
                    rw [decide_eq_false]; intro hP; have := hP.1 i hil; unfold posOk at this; omega
                  · skip
                    refine GE_skip ?_
                    refine GE_inBlock ?_
                    refine GE_slots (L' := [(0, _), (3, _), (4, _), (5, _), (20, _), (21, _), (22, _), (23, _), (24, _), (27, _), (28, _), (29, _), (30, _), (31, _), (32, _), (33, _), (34, _), (35, _), (36, _), (37, _), (38, _), (39, _), (40, _), (41, _), (42, _), (43, _), (44, _), (45, _), (46, _), (47, _), (48, _), (49, _), (50, _), (51, _), (52, _), (53, _), (54, _), (55, _), (56, _), (57, _), (60, _), (61, _), (62, _), (63, _), (64, _), (65, _), (66, _), (67, _), (68, _), (69, _), (70, _), (71, _), (72, _), (73, _), (74, _), (75, _), (76, _), (77, _), (78, _), (79, _), (80, _)]) ⟨rfl, rfl, rfl, rfl, rfl, rfl, rfl, rfl, rfl, rfl, rfl, rfl, rfl, rfl, rfl, rfl, rfl, rfl, rfl, rfl, rfl, rfl, rfl, rfl, rfl, rfl, rfl, rfl, rfl, rfl, rfl, rfl, rfl, rfl, rfl, rfl, rfl, rfl, rfl, rfl, rfl, rfl, rfl, rfl, rfl, rfl, rfl, rfl, rfl, rfl, rfl, rfl, rfl, rfl, rfl, rfl, rfl, rfl, rfl, rfl, rfl, trivial⟩ ?_
                    refine GE_plain (.st 0 (.st 1 (.ld 2 [] .nil))) rfl ?_
                    refine GT_st rfl rfl rfl rfl (V_move rfl rfl) ?_
                    refine GT_st rfl rfl rfl rfl (V_add rfl rfl rfl (wrap_i64 (by omega))) ?_
                    refine GT_ldv rfl rfl rfl rfl rfl (V_assign rfl rfl) (GR_nil) ?_
                    refine GT_nil ?_
                    exact GE_to (ih (i + 1) ⟨by omega, fun j hj => by rcases Nat.lt_or_ge j i with r | r; exact hps j r; rw [show j = i by omega]; unfold posOk; omega⟩ (by omega)) ⟨rfl, rfl, rfl, rfl, trivial⟩ HS.all
                · skip
                  refine GT_skip rfl rfl rfl rfl rfl (by decide) rfl rfl ?_
                  refine GT_skip rfl rfl rfl rfl rfl (by decide) rfl rfl ?_
                  refine GT_skip rfl rfl rfl rfl rfl (by decide) rfl rfl ?_
                  refine GT_skip rfl rfl rfl rfl rfl (by decide) rfl rfl ?_
                  refine GT_skip rfl rfl rfl rfl rfl (by decide) rfl rfl ?_
                  refine GT_skip rfl rfl rfl rfl rfl (by decide) rfl rfl ?_
                  refine GT_skip rfl rfl rfl rfl rfl (by decide) rfl rfl ?_
                  refine GT_skip rfl rfl rfl rfl rfl (by decide) rfl rfl ?_
                  refine GT_skip rfl rfl rfl rfl rfl (by decide) rfl rfl ?_
                  refine GT_skip rfl rfl rfl rfl rfl (by decide) rfl rfl ?_
                  refine GT_skip rfl rfl rfl rfl rfl (by decide) rfl rfl ?_
                  refine GT_skip rfl rfl rfl rfl rfl (by decide) rfl rfl ?_
                  refine GT_skip rfl rfl rfl rfl rfl (by decide) rfl rfl ?_
                  refine GT_skip rfl rfl rfl rfl rfl (by decide) rfl rfl ?_
                  refine GT_skip_ld rfl rfl rfl rfl rfl (by decide) rfl rfl rfl (GR_skip rfl rfl rfl rfl rfl (by decide) rfl rfl (GR_skip rfl rfl rfl rfl rfl (by decide) rfl rfl (GR_skip rfl rfl rfl rfl rfl (by decide) rfl rfl (GR_skip rfl rfl rfl rfl rfl (by decide) rfl rfl (GR_skip rfl rfl rfl rfl rfl (by decide) rfl rfl (GR_skip rfl rfl rfl rfl rfl (by decide) rfl rfl (GR_skip rfl rfl rfl rfl rfl (by decide) rfl rfl (GR_skip rfl rfl rfl rfl rfl (by decide) rfl rfl (GR_skip rfl rfl rfl rfl rfl (by decide) rfl rfl (GR_nil)))))))))) ?_
                  refine GT_skip rfl rfl rfl rfl rfl (by decide) rfl rfl ?_
                  refine GT_skip rfl rfl rfl rfl rfl (by decide) rfl rfl ?_
                  refine GT_st_g rfl rfl rfl rfl rfl rfl rfl (V_pick_f rfl rfl rfl) ?_
                  refine GT_st rfl rfl rfl rfl (V_pick_f rfl rfl rfl) ?_
                  refine GT_nil ?_
                  refine GE_cond_f rfl ?_
                  refine GE_skip ?_
                  refine GE_inBlock ?_
                  refine GE_slots (L' := [(0, _), (3, _), (4, _), (5, _), (20, _), (21, _), (22, _), (23, _), (24, _), (27, _), (28, _), (29, _), (30, _), (31, _), (32, _), (33, _), (34, _), (35, _), (36, _), (37, _), (38, _), (39, _), (40, _), (41, _), (42, _), (43, _), (44, _), (45, _), (46, _), (47, _), (48, _), (49, _), (50, _), (51, _), (52, _), (53, _), (54, _), (55, _), (56, _), (57, _), (60, _), (61, _), (62, _), (63, _), (64, _), (65, _), (66, _), (67, _), (68, _), (69, _), (70, _), (71, _), (72, _), (73, _), (74, _), (75, _), (76, _), (77, _), (78, _), (79, _), (80, _)]) ⟨rfl, rfl, rfl, rfl, rfl, rfl, rfl, rfl, rfl, rfl, rfl, rfl, rfl, rfl, rfl, rfl, rfl, rfl, rfl, rfl, rfl, rfl, rfl, rfl, rfl, rfl, rfl, rfl, rfl, rfl, rfl, rfl, rfl, rfl, rfl, rfl, rfl, rfl, rfl, rfl, rfl, rfl, rfl, rfl, rfl, rfl, rfl, rfl, rfl, rfl, rfl, rfl, rfl, rfl, rfl, rfl, rfl, rfl, rfl, rfl, rfl, trivial⟩ ?_
                  refine GE_plain (.st 0 (.st 1 (.ld 2 [] .nil))) rfl ?_
                  refine GT_st rfl rfl rfl rfl (V_move rfl rfl) ?_
                  refine GT_st rfl rfl rfl rfl (V_add rfl rfl rfl (wrap_i64 (by omega))) ?_
                  refine GT_ldv rfl rfl rfl rfl rfl (V_assign rfl rfl) (GR_nil) ?_
                  refine GT_nil ?_
                  exact GE_to (ih (i + 1) ⟨by omega, fun j hj => by rcases Nat.lt_or_ge j i with r | r; exact hps j r; rw [show j = i by omega]; unfold posOk; omega⟩ (by omega)) ⟨rfl, rfl, rfl, rfl, trivial⟩ HS.all
          · skip
            refine GT_skip rfl rfl rfl rfl rfl (by decide) rfl rfl ?_
            refine GT_skip rfl rfl rfl rfl rfl (by decide) rfl rfl ?_
            refine GT_skip rfl rfl rfl rfl rfl (by decide) rfl rfl ?_
            refine GT_skip rfl rfl rfl rfl rfl (by decide) rfl rfl ?_
            refine GT_skip rfl rfl rfl rfl rfl (by decide) rfl rfl ?_
            refine GT_skip rfl rfl rfl rfl rfl (by decide) rfl rfl ?_
            refine GT_skip rfl rfl rfl rfl rfl (by decide) rfl rfl ?_
            refine GT_skip rfl rfl rfl rfl rfl (by decide) rfl rfl ?_
            refine GT_skip rfl rfl rfl rfl rfl (by decide) rfl rfl ?_
            refine GT_skip_ld rfl rfl rfl rfl rfl (by decide) rfl rfl rfl (GR_skip rfl rfl rfl rfl rfl (by decide) rfl rfl (GR_skip rfl rfl rfl rfl rfl (by decide) rfl rfl (GR_skip rfl rfl rfl rfl rfl (by decide) rfl rfl (GR_skip rfl rfl rfl rfl rfl (by decide) rfl rfl (GR_skip rfl rfl rfl rfl rfl (by decide) rfl rfl (GR_nil)))))) ?_
            refine GT_skip rfl rfl rfl rfl rfl (by decide) rfl rfl ?_
            refine GT_skip rfl rfl rfl rfl rfl (by decide) rfl rfl ?_
            refine GT_skip rfl rfl rfl rfl rfl (by decide) rfl rfl ?_
            refine GT_skip rfl rfl rfl rfl rfl (by decide) rfl rfl ?_
            refine GT_skip rfl rfl rfl rfl rfl (by decide) rfl rfl ?_
            refine GT_skip rfl rfl rfl rfl rfl (by decide) rfl rfl ?_
            refine GT_skip rfl rfl rfl rfl rfl (by decide) rfl rfl ?_
            refine GT_skip rfl rfl rfl rfl rfl (by decide) rfl rfl ?_
            refine GT_skip rfl rfl rfl rfl rfl (by decide) rfl rfl ?_
            refine GT_skip rfl rfl rfl rfl rfl (by decide) rfl rfl ?_
            refine GT_skip rfl rfl rfl rfl rfl (by decide) rfl rfl ?_
            refine GT_skip rfl rfl rfl rfl rfl (by decide) rfl rfl ?_
            refine GT_skip rfl rfl rfl rfl rfl (by decide) rfl rfl ?_
            refine GT_skip_ld rfl rfl rfl rfl rfl (by decide) rfl rfl rfl (GR_skip rfl rfl rfl rfl rfl (by decide) rfl rfl (GR_skip rfl rfl rfl rfl rfl (by decide) rfl rfl (GR_skip rfl rfl rfl rfl rfl (by decide) rfl rfl (GR_skip rfl rfl rfl rfl rfl (by decide) rfl rfl (GR_skip rfl rfl rfl rfl rfl (by decide) rfl rfl (GR_nil)))))) ?_
            refine GT_skip rfl rfl rfl rfl rfl (by decide) rfl rfl ?_
            refine GT_skip rfl rfl rfl rfl rfl (by decide) rfl rfl ?_
            refine GT_skip rfl rfl rfl rfl rfl (by decide) rfl rfl ?_
            refine GT_st_g rfl rfl rfl rfl rfl rfl rfl (V_pick_f rfl rfl rfl) ?_
            refine GT_st rfl rfl rfl rfl (V_pick_f rfl rfl rfl) ?_
            refine GT_st rfl rfl rfl rfl (V_move rfl rfl) ?_
            refine GT_st_g rfl rfl rfl rfl rfl rfl rfl (V_move rfl rfl) ?_
            refine GT_st_g rfl rfl rfl rfl rfl rfl rfl (V_gtr rfl rfl rfl) ?_
            refine GT_st_g rfl rfl rfl rfl rfl rfl rfl (V_move rfl rfl) ?_
            first | refine GT_splitNot (d := 62) rfl (fun q7 => ?_) (fun q7 => ?_) | refine GT_split (d := 62) rfl (fun q7 => ?_) (fun q7 => ?_) | refine GT_splitNotB (d := 62) rfl (fun q7 => ?_) (fun q7 => ?_) | refine GT_splitB (d := 62) rfl (fun q7 => ?_) (fun q7 => ?_)
            · skip
              refine GT_st_g rfl rfl rfl rfl rfl rfl rfl (V_move rfl rfl) ?_
              refine GT_st_g rfl rfl rfl rfl rfl rfl rfl (V_move rfl rfl) ?_
              refine GT_st_g rfl rfl rfl rfl rfl rfl rfl (V_index rfl rfl rfl Tryd.underlying62 sz_3 (k := i) rfl hil (hy.isSome (k := i) (by omega))) ?_
              refine GT_st_g rfl rfl rfl rfl rfl rfl rfl (V_load rfl rfl ag_3 (CellAt.own0 (k := i) hy eI_len (by omega) (by rw [bgns_get hil]; rfl))) ?_
              refine GT_st_g rfl rfl rfl rfl rfl rfl rfl (V_move rfl rfl) ?_
              refine GT_st_g rfl rfl rfl rfl rfl rfl rfl (V_move rfl rfl) ?_
              refine GT_st_g rfl rfl rfl rfl rfl rfl rfl (V_sub rfl rfl rfl (wrap_i64 (by omega))) ?_
              refine GT_st_g rfl rfl rfl rfl rfl rfl rfl (V_index rfl rfl rfl Tryd.underlying62 sz_3 (k := i - 2) (by omega) (by omega) (hy.isSome (k := i) (by omega))) ?_
              refine GT_st_g rfl rfl rfl rfl rfl rfl rfl (V_load rfl rfl ag_3 (CellAt.own0 (k := i - 2) hy eI_len (by omega) (by rw [bgns_get (by omega)]; rfl))) ?_
              refine GT_st_g rfl rfl rfl rfl rfl rfl rfl (V_move rfl rfl) ?_
              refine GT_st_g rfl rfl rfl rfl rfl rfl rfl (V_move rfl rfl) ?_
              refine GT_st_g rfl rfl rfl rfl rfl rfl rfl (V_sub rfl rfl rfl (wrap_i64 (by omega))) ?_
              refine GT_st_g rfl rfl rfl rfl rfl rfl rfl (V_index rfl rfl rfl Tryd.underlying31 sz_30 (k := i - 2) (by omega) (by omega) (hp.isSome (k := i - 2) (by omega))) ?_
              refine GT_st_g rfl rfl rfl rfl rfl rfl rfl (V_loadN (vs := [_, _, _, _, _, _, _]) rfl rfl ag_30 sz_30 rfl (show CellsAt _ _ _ (ePrt (pt p (i - 2))) from hp.ats noM (by omega))) ?_
              refine GT_call0_g rfl rfl rfl rfl rfl rfl rfl rfl rfl rfl rfl rn_56 (fun w hw => C_rLong (x := pt p (i - 2)) (by omega)) (GR_cons_g rfl rfl rfl rfl rfl rfl rfl (V_move rfl rfl) (GR_cons_g rfl rfl rfl rfl rfl rfl rfl (V_move rfl rfl) (GR_cons_g rfl rfl rfl rfl rfl rfl rfl (V_index rfl rfl rfl Tryd.underlying62 sz_3 (k := i) rfl hil (hy.isSome (k := i) (by omega))) (GR_cons_g rfl rfl rfl rfl rfl rfl rfl (V_load rfl rfl ag_3 (CellAt.own0 (k := i) hy eI_len (by omega) (by rw [bgns_get hil]; rfl))) (GR_cons_g rfl rfl rfl rfl rfl rfl rfl (V_move rfl rfl) (GR_cons_g rfl rfl rfl rfl rfl rfl rfl (V_move rfl rfl) (GR_cons_g rfl rfl rfl rfl rfl rfl rfl (V_sub rfl rfl rfl (wrap_i64 (by omega))) (GR_cons_g rfl rfl rfl rfl rfl rfl rfl (V_index rfl rfl rfl Tryd.underlying62 sz_3 (k := i - 2) (by omega) (by omega) (hy.isSome (k := i) (by omega))) (GR_cons_g rfl rfl rfl rfl rfl rfl rfl (V_load rfl rfl ag_3 (CellAt.own0 (k := i - 2) hy eI_len (by omega) (by rw [bgns_get (by omega)]; rfl))) (GR_nil)))))))))) ?_
              refine GT_st_g rfl rfl rfl rfl rfl rfl rfl (V_add rfl rfl rfl (wrap_i64 (by omega))) ?_
              refine GT_st_g rfl rfl rfl rfl rfl rfl rfl (V_lss rfl rfl rfl) ?_
              refine GT_st_g rfl rfl rfl rfl rfl rfl rfl (V_pick_t rfl rfl rfl) ?_
              refine GT_st rfl rfl rfl rfl (V_pick_f rfl rfl rfl) ?_
              refine GT_nil ?_
              first | refine GE_condNot rfl (fun q8 => ?_) (fun q8 => ?_) | refine GE_cond rfl (fun q8 => ?_) (fun q8 => ?_) | refine GE_condNotB rfl (fun q8 => ?_) (fun q8 => ?_) | refine GE_condB rfl (fun q8 => ?_) (fun q8 => ?_)
              · skip
                refine GE_seq ?_
                refine GE_slots (L' := []) trivial ?_
                refine GE_plain (.st 0 .nil) rfl ?_
                refine GT_st rfl rfl rfl rfl (V_assign rfl rfl) ?_
                refine GT_nil ?_
                refine GE_ret Tryd.func53 rfl (fun w hw => ⟨?_, hw.nil⟩)
                rw [decide_eq_false]; intro hP; have := hP.1 i hil; unfold posOk at this; omega
              · skip
                refine GE_skip ?_
                refine GE_inBlock ?_
                refine GE_slots (L' := [(0, _), (3, _), (4, _), (5, _), (20, _), (21, _), (22, _), (23, _), (24, _), (27, _), (28, _), (29, _), (30, _), (31, _), (32, _), (33, _), (34, _), (35, _), (36, _), (37, _), (38, _), (39, _), (40, _), (41, _), (42, _), (43, _), (44, _), (45, _), (46, _), (47, _), (48, _), (49, _), (50, _), (51, _), (52, _), (53, _), (54, _), (55, _), (56, _), (57, _), (60, _), (61, _), (62, _), (63, _), (64, _), (65, _), (66, _), (67, _), (68, _), (69, _), (70, _), (71, _), (72, _), (73, _), (74, _), (75, _), (76, _), (77, _), (78, _), (79, _), (80, _)]) ⟨rfl, rfl, rfl, rfl, rfl, rfl, rfl, rfl, rfl, rfl, rfl, rfl, rfl, rfl, rfl, rfl, rfl, rfl, rfl, rfl, rfl, rfl, rfl, rfl, rfl, rfl, rfl, rfl, rfl, rfl, rfl, rfl, rfl, rfl, rfl, rfl, rfl, rfl, rfl, rfl, rfl, rfl, rfl, rfl, rfl, rfl, rfl, rfl, rfl, rfl, rfl, rfl, rfl, rfl, rfl, rfl, rfl, rfl, rfl, rfl, rfl, trivial⟩ ?_
                refine GE_plain (.st 0 (.st 1 (.ld 2 [] .nil))) rfl ?_
                refine GT_st rfl rfl rfl rfl (V_move rfl rfl) ?_
                refine GT_st rfl rfl rfl rfl (V_add rfl rfl rfl (wrap_i64 (by omega))) ?_
                refine GT_ldv rfl rfl rfl rfl rfl (V_assign rfl rfl) (GR_nil) ?_
                refine GT_nil ?_
                exact GE_to (ih (i + 1) ⟨by omega, fun j hj => by rcases Nat.lt_or_ge j i with r | r; exact hps j r; rw [show j = i by omega]; unfold posOk; omega⟩ (by omega)) ⟨rfl, rfl, rfl, rfl, trivial⟩ HS.all
            · skip
              refine GT_skip rfl rfl rfl rfl rfl (by decide) rfl rfl ?_
              refine GT_skip rfl rfl rfl rfl rfl (by decide) rfl rfl ?_
              refine GT_skip rfl rfl rfl rfl rfl (by decide) rfl rfl ?_
              refine GT_skip rfl rfl rfl rfl rfl (by decide) rfl rfl ?_
              refine GT_skip rfl rfl rfl rfl rfl (by decide) rfl rfl ?_
              refine GT_skip rfl rfl rfl rfl rfl (by decide) rfl rfl ?_
              refine GT_skip rfl rfl rfl rfl rfl (by decide) rfl rfl ?_
              refine GT_skip rfl rfl rfl rfl rfl (by decide) rfl rfl ?_
              refine GT_skip rfl rfl rfl rfl rfl (by decide) rfl rfl ?_
              refine GT_skip rfl rfl rfl rfl rfl (by decide) rfl rfl ?_
              refine GT_skip rfl rfl rfl rfl rfl (by decide) rfl rfl ?_
              refine GT_skip rfl rfl rfl rfl rfl (by decide) rfl rfl ?_
              refine GT_skip rfl rfl rfl rfl rfl (by decide) rfl rfl ?_
              refine GT_skip rfl rfl rfl rfl rfl (by decide) rfl rfl ?_
              refine GT_skip_ld rfl rfl rfl rfl rfl (by decide) rfl rfl rfl (GR_skip rfl rfl rfl rfl rfl (by decide) rfl rfl (GR_skip rfl rfl rfl rfl rfl (by decide) rfl rfl (GR_skip rfl rfl rfl rfl rfl (by decide) rfl rfl (GR_skip rfl rfl rfl rfl rfl (by decide) rfl rfl (GR_skip rfl rfl rfl rfl rfl (by decide) rfl rfl (GR_skip rfl rfl rfl rfl rfl (by decide) rfl rfl (GR_skip rfl rfl rfl rfl rfl (by decide) rfl rfl (GR_skip rfl rfl rfl rfl rfl (by decide) rfl rfl (GR_skip rfl rfl rfl rfl rfl (by decide) rfl rfl (GR_nil)))))))))) ?_
              refine GT_skip rfl rfl rfl rfl rfl (by decide) rfl rfl ?_
              refine GT_skip rfl rfl rfl rfl rfl (by decide) rfl rfl ?_
              refine GT_st_g rfl rfl rfl rfl rfl rfl rfl (V_pick_f rfl rfl rfl) ?_
              refine GT_st rfl rfl rfl rfl (V_pick_f rfl rfl rfl) ?_
              refine GT_nil ?_
              refine GE_cond_f rfl ?_
              refine GE_skip ?_
              refine GE_inBlock ?_
              refine GE_slots (L' := [(0, _), (3, _), (4, _), (5, _), (20, _), (21, _), (22, _), (23, _), (24, _), (27, _), (28, _), (29, _), (30, _), (31, _), (32, _), (33, _), (34, _), (35, _), (36, _), (37, _), (38, _), (39, _), (40, _), (41, _), (42, _), (43, _), (44, _), (45, _), (46, _), (47, _), (48, _), (49, _), (50, _), (51, _), (52, _), (53, _), (54, _), (55, _), (56, _), (57, _), (60, _), (61, _), (62, _), (63, _), (64, _), (65, _), (66, _), (67, _), (68, _), (69, _), (70, _), (71, _), (72, _), (73, _), (74, _), (75, _), (76, _), (77, _), (78, _), (79, _), (80, _)]) ⟨rfl, rfl, rfl, rfl, rfl, rfl, rfl, rfl, rfl, rfl, rfl, rfl, rfl, rfl, rfl, rfl, rfl, rfl, rfl, rfl, rfl, rfl, rfl, rfl, rfl, rfl, rfl, rfl, rfl, rfl, rfl, rfl, rfl, rfl, rfl, rfl, rfl, rfl, rfl, rfl, rfl, rfl, rfl, rfl, rfl, rfl, rfl, rfl, rfl, rfl, rfl, rfl, rfl, rfl, rfl, rfl, rfl, rfl, rfl, rfl, rfl, trivial⟩ ?_
              refine GE_plain (.st 0 (.st 1 (.ld 2 [] .nil))) rfl ?_
              refine GT_st rfl rfl rfl rfl (V_move rfl rfl) ?_
              refine GT_st rfl rfl rfl rfl (V_add rfl rfl rfl (wrap_i64 (by omega))) ?_
              refine GT_ldv rfl rfl rfl rfl rfl (V_assign rfl rfl) (GR_nil) ?_
              refine GT_nil ?_
              exact GE_to (ih (i + 1) ⟨by omega, fun j hj => by rcases Nat.lt_or_ge j i with r | r; exact hps j r; rw [show j = i by omega]; unfold posOk; omega⟩ (by omega)) ⟨rfl, rfl, rfl, rfl, trivial⟩ HS.all
      · skip
        refine GT_skip rfl rfl rfl rfl rfl (by decide) rfl rfl ?_
        refine GT_skip rfl rfl rfl rfl rfl (by decide) rfl rfl ?_
        refine GT_skip rfl rfl rfl rfl rfl (by decide) rfl rfl ?_
        refine GT_skip rfl rfl rfl rfl rfl (by decide) rfl rfl ?_
        refine GT_skip rfl rfl rfl rfl rfl (by decide) rfl rfl ?_
        refine GT_st rfl rfl rfl rfl (V_pick_f rfl rfl rfl) ?_
        refine GT_st rfl rfl rfl rfl (V_move rfl rfl) ?_
        refine GT_st_g rfl rfl rfl rfl rfl rfl rfl (V_move rfl rfl) ?_
        refine GT_st_g rfl rfl rfl rfl rfl rfl rfl (V_gtr rfl rfl rfl) ?_
        refine GT_st_g rfl rfl rfl rfl rfl rfl rfl (V_move rfl rfl) ?_
        first | refine GT_splitNot (d := 29) rfl (fun q4 => ?_) (fun q4 => ?_) | refine GT_split (d := 29) rfl (fun q4 => ?_) (fun q4 => ?_) | refine GT_splitNotB (d := 29) rfl (fun q4 => ?_) (fun q4 => ?_) | refine GT_splitB (d := 29) rfl (fun q4 => ?_) (fun q4 => ?_)
        · skip
          refine GT_st_g rfl rfl rfl rfl rfl rfl rfl (V_move rfl rfl) ?_
          refine GT_st_g rfl rfl rfl rfl rfl rfl rfl (V_move rfl rfl) ?_
          refine GT_st_g rfl rfl rfl rfl rfl rfl rfl (V_index rfl rfl rfl Tryd.underlying31 sz_30 (k := i) rfl hil (hp.isSome hil)) ?_
          first | refine GT_st_g rfl rfl rfl rfl rfl rfl rfl (V_field rfl rfl fo_30_3) ?_ | refine GT_st_g rfl rfl rfl rfl rfl rfl rfl (V_fieldA rfl rfl fo_30_3) ?_
          refine GT_st_g rfl rfl rfl rfl rfl rfl rfl (V_load rfl rfl ag_3 (hp.at1 noM hil (show _ = some (I (pt p i).gap) from rfl))) ?_
          refine GT_st_g rfl rfl rfl rfl rfl rfl rfl (V_move rfl rfl) ?_
          refine GT_st_g rfl rfl rfl rfl rfl rfl rfl (V_move rfl rfl) ?_
          refine GT_st_g rfl rfl rfl rfl rfl rfl rfl (V_index rfl rfl rfl Tryd.underlying31 sz_30 (k := i) rfl hil (hp.isSome hil)) ?_
          refine GT_st_g rfl rfl rfl rfl rfl rfl rfl (V_loadN (vs := [_, _, _, _, _, _, _]) rfl rfl ag_30 sz_30 rfl (show CellsAt _ _ _ (ePrt (pt p i)) from hp.ats noM hil)) ?_
          refine GT_call0_g rfl rfl rfl rfl rfl rfl rfl rfl rfl rfl rfl rn_56 (fun w hw => C_rLong (x := pt p i) (by omega)) (GR_cons_g rfl rfl rfl rfl rfl rfl rfl (V_move rfl rfl) (GR_cons_g rfl rfl rfl rfl rfl rfl rfl (V_move rfl rfl) (GR_cons_g rfl rfl rfl rfl rfl rfl rfl (V_index rfl rfl rfl Tryd.underlying31 sz_30 (k := i) rfl hil (hp.isSome hil)) (GR_cons_g rfl rfl rfl rfl rfl rfl rfl ((by first | exact V_field rfl rfl fo_30_3 | exact V_fieldA rfl rfl fo_30_3)) (GR_cons_g rfl rfl rfl rfl rfl rfl rfl (V_load rfl rfl ag_3 (hp.at1 noM hil (show _ = some (I (pt p i).gap) from rfl))) (GR_nil)))))) ?_
          refine GT_st_g rfl rfl rfl rfl rfl rfl rfl (V_neg rfl rfl (wrap_i64 (by omega))) ?_
          refine GT_st_g rfl rfl rfl rfl rfl rfl rfl (V_lss rfl rfl rfl) ?_
          refine GT_st_g rfl rfl rfl rfl rfl rfl rfl (V_move rfl rfl) ?_
          first | refine GT_splitNot (d := 42) rfl (fun q5 => ?_) (fun q5 => ?_) | refine GT_split (d := 42) rfl (fun q5 => ?_) (fun q5 => ?_) | refine GT_splitNotB (d := 42) rfl (fun q5 => ?_) (fun q5 => ?_) | refine GT_splitB (d := 42) rfl (fun q5 => ?_) (fun q5 => ?_)
          · skip
            refine GT_skip rfl rfl rfl rfl rfl (by decide) rfl rfl ?_
            refine GT_skip rfl rfl rfl rfl rfl (by decide) rfl rfl ?_
            refine GT_skip rfl rfl rfl rfl rfl (by decide) rfl rfl ?_
            refine GT_skip rfl rfl rfl rfl rfl (by decide) rfl rfl ?_
            refine GT_skip rfl rfl rfl rfl rfl (by decide) rfl rfl ?_
            refine GT_skip rfl rfl rfl rfl rfl (by decide) rfl rfl ?_
            refine GT_skip rfl rfl rfl rfl rfl (by decide) rfl rfl ?_
            refine GT_skip rfl rfl rfl rfl rfl (by decide) rfl rfl ?_
            refine GT_skip rfl rfl rfl rfl rfl (by decide) rfl rfl ?_
            refine GT_skip rfl rfl rfl rfl rfl (by decide) rfl rfl ?_
            refine GT_skip_ld rfl rfl rfl rfl rfl (by decide) rfl rfl rfl (GR_skip rfl rfl rfl rfl rfl (by decide) rfl rfl (GR_skip rfl rfl rfl rfl rfl (by decide) rfl rfl (GR_skip rfl rfl rfl rfl rfl (by decide) rfl rfl (GR_skip rfl rfl rfl rfl rfl (by decide) rfl rfl (GR_skip rfl rfl rfl rfl rfl (by decide) rfl rfl (GR_nil)))))) ?_
            refine GT_skip rfl rfl rfl rfl rfl (by decide) rfl rfl ?_
            refine GT_skip rfl rfl rfl rfl rfl (by decide) rfl rfl ?_
            refine GT_st_g rfl rfl rfl rfl rfl rfl rfl (V_pick_t rfl rfl rfl) ?_
            refine GT_st_g rfl rfl rfl rfl rfl rfl rfl (V_pick_t rfl rfl rfl) ?_
            refine GT_st rfl rfl rfl rfl (V_pick_f rfl rfl rfl) ?_
            refine GT_st rfl rfl rfl rfl (V_move rfl rfl) ?_
            refine GT_skip rfl rfl rfl rfl rfl (by decide) rfl rfl ?_
            refine GT_skip rfl rfl rfl rfl rfl (by decide) rfl rfl ?_
            refine GT_skip rfl rfl rfl rfl rfl (by decide) rfl rfl ?_
            refine GT_skip rfl rfl rfl rfl rfl (by decide) rfl rfl ?_
            refine GT_skip rfl rfl rfl rfl rfl (by decide) rfl rfl ?_
            refine GT_skip rfl rfl rfl rfl rfl (by decide) rfl rfl ?_
            refine GT_skip rfl rfl rfl rfl rfl (by decide) rfl rfl ?_
            refine GT_skip rfl rfl rfl rfl rfl (by decide) rfl rfl ?_
            refine GT_skip rfl rfl rfl rfl rfl (by decide) rfl rfl ?_
            refine GT_skip rfl rfl rfl rfl rfl (by decide) rfl rfl ?_
            refine GT_skip rfl rfl rfl rfl rfl (by decide) rfl rfl ?_
            refine GT_skip rfl rfl rfl rfl rfl (by decide) rfl rfl ?_
            refine GT_skip rfl rfl rfl rfl rfl (by decide) rfl rfl ?_
            refine GT_skip rfl rfl rfl rfl rfl (by decide) rfl rfl ?_
            refine GT_skip rfl rfl rfl rfl rfl (by decide) rfl rfl ?_
            refine GT_skip rfl rfl rfl rfl rfl (by decide) rfl rfl ?_
            refine GT_skip rfl rfl rfl rfl rfl (by decide) rfl rfl ?_
            refine GT_skip_ld rfl rfl rfl rfl rfl (by decide) rfl rfl rfl (GR_skip rfl rfl rfl rfl rfl (by decide) rfl rfl (GR_skip rfl rfl rfl rfl rfl (by decide) rfl rfl (GR_skip rfl rfl rfl rfl rfl (by decide) rfl rfl (GR_skip rfl rfl rfl rfl rfl (by decide) rfl rfl (GR_skip rfl rfl rfl rfl rfl (by decide) rfl rfl (GR_skip rfl rfl rfl rfl rfl (by decide) rfl rfl (GR_skip rfl rfl rfl rfl rfl (by decide) rfl rfl (GR_skip rfl rfl rfl rfl rfl (by decide) rfl rfl (GR_skip rfl rfl rfl rfl rfl (by decide) rfl rfl (GR_nil)))))))))) ?_
            refine GT_skip rfl rfl rfl rfl rfl (by decide) rfl rfl ?_
            refine GT_skip rfl rfl rfl rfl rfl (by decide) rfl rfl ?_
            refine GT_skip rfl rfl rfl rfl rfl (by decide) rfl rfl ?_
            refine GT_st rfl rfl rfl rfl (V_pick_t rfl rfl rfl) ?_
            refine GT_nil ?_
            refine GE_cond_t rfl ?_
            refine GE_seq ?_
            refine GE_slots (L' := []) trivial ?_
            refine GE_plain (.st 0 .nil) rfl ?_
            refine GT_st rfl rfl rfl rfl (V_assign rfl rfl) ?_
            refine GT_nil ?_
            refine GE_ret Tryd.func53 rfl (fun w hw => ⟨?_, hw.nil⟩)
            first | (rw [decide_eq_false]; intro hP; have := hP.1 i hil; unfold posOk at this; omega) | (refine congrArg Value.bool (decide_eq_decide.2 ⟨fun h => ⟨fun j hj => hps j (by omega), h⟩, fun h => h.2⟩))
          · skip
            refine GT_st_g rfl rfl rfl rfl rfl rfl rfl (V_move rfl rfl) ?_
            refine GT_st_g rfl rfl rfl rfl rfl rfl rfl (V_move rfl rfl) ?_
            refine GT_st_g rfl rfl rfl rfl rfl rfl rfl (V_index rfl rfl rfl Tryd.underlying31 sz_30 (k := i) rfl hil (hp.isSome hil)) ?_
            first | refine GT_st_g rfl rfl rfl rfl rfl rfl rfl (V_field rfl rfl fo_30_3) ?_ | refine GT_st_g rfl rfl rfl rfl rfl rfl rfl (V_fieldA rfl rfl fo_30_3) ?_
            refine GT_st_g rfl rfl rfl rfl rfl rfl rfl (V_load rfl rfl ag_3 (hp.at1 noM hil (show _ = some (I (pt p i).gap) from rfl))) ?_
            refine GT_st_g rfl rfl rfl rfl rfl rfl rfl (V_move rfl rfl) ?_
            refine GT_st_g rfl rfl rfl rfl rfl rfl rfl (V_move rfl rfl) ?_
            refine GT_st_g rfl rfl rfl rfl rfl rfl rfl (V_sub rfl rfl rfl (wrap_i64 (by omega))) ?_
            refine GT_st_g rfl rfl rfl rfl rfl rfl rfl (V_index rfl rfl rfl Tryd.underlying31 sz_30 (k := i - 1) (by omega) (by omega) (hp.isSome (k := i - 1) (by omega))) ?_
            refine GT_st_g rfl rfl rfl rfl rfl rfl rfl (V_loadN (vs := [_, _, _, _, _, _, _]) rfl rfl ag_30 sz_30 rfl (show CellsAt _ _ _ (ePrt (pt p (i - 1))) from hp.ats noM (by omega))) ?_
            refine GT_call0_g rfl rfl rfl rfl rfl rfl rfl rfl rfl rfl rfl rn_56 (fun w hw => C_rLong (x := pt p (i - 1)) (by omega)) (GR_cons_g rfl rfl rfl rfl rfl rfl rfl (V_move rfl rfl) (GR_cons_g rfl rfl rfl rfl rfl rfl rfl (V_move rfl rfl) (GR_cons_g rfl rfl rfl rfl rfl rfl rfl (V_index rfl rfl rfl Tryd.underlying31 sz_30 (k := i) rfl hil (hp.isSome hil)) (GR_cons_g rfl rfl rfl rfl rfl rfl rfl ((by first | exact V_field rfl rfl fo_30_3 | exact V_fieldA rfl rfl fo_30_3)) (GR_cons_g rfl rfl rfl rfl rfl rfl rfl (V_load rfl rfl ag_3 (hp.at1 noM hil (show _ = some (I (pt p i).gap) from rfl))) (GR_nil)))))) ?_
            refine GT_st_g rfl rfl rfl rfl rfl rfl rfl (V_neg rfl rfl (wrap_i64 (by omega))) ?_
            refine GT_st_g rfl rfl rfl rfl rfl rfl rfl (V_lss rfl rfl rfl) ?_
            refine GT_st_g rfl rfl rfl rfl rfl rfl rfl (V_pick_f rfl rfl rfl) ?_
            refine GT_st_g rfl rfl rfl rfl rfl rfl rfl (V_pick_t rfl rfl rfl) ?_
            refine GT_st rfl rfl rfl rfl (V_pick_f rfl rfl rfl) ?_
            refine GT_st rfl rfl rfl rfl (V_move rfl rfl) ?_
            first | refine GT_splitNot (d := 59) rfl (fun q6 => ?_) (fun q6 => ?_) | refine GT_split (d := 59) rfl (fun q6 => ?_) (fun q6 => ?_) | refine GT_splitNotB (d := 59) rfl (fun q6 => ?_) (fun q6 => ?_) | refine GT_splitB (d := 59) rfl (fun q6 => ?_) (fun q6 => ?_)
            · skip
              refine GT_skip rfl rfl rfl rfl rfl (by decide) rfl rfl ?_
              refine GT_skip rfl rfl rfl rfl rfl (by decide) rfl rfl ?_
              refine GT_skip rfl rfl rfl rfl rfl (by decide) rfl rfl ?_
              refine GT_skip rfl rfl rfl rfl rfl (by decide) rfl rfl ?_
              refine GT_skip rfl rfl rfl rfl rfl (by decide) rfl rfl ?_
              refine GT_skip rfl rfl rfl rfl rfl (by decide) rfl rfl ?_
              refine GT_skip rfl rfl rfl rfl rfl (by decide) rfl rfl ?_
              refine GT_skip rfl rfl rfl rfl rfl (by decide) rfl rfl ?_
              refine GT_skip rfl rfl rfl rfl rfl (by decide) rfl rfl ?_
              refine GT_skip rfl rfl rfl rfl rfl (by decide) rfl rfl ?_
              refine GT_skip rfl rfl rfl rfl rfl (by decide) rfl rfl ?_
              refine GT_skip rfl rfl rfl rfl rfl (by decide) rfl rfl ?_
              refine GT_skip rfl rfl rfl rfl rfl (by decide) rfl rfl ?_
              refine GT_skip rfl rfl rfl rfl rfl (by decide) rfl rfl ?_
              refine GT_skip rfl rfl rfl rfl rfl (by decide) rfl rfl ?_
              refine GT_skip rfl rfl rfl rfl rfl (by decide) rfl rfl ?_
              refine GT_skip rfl rfl rfl rfl rfl (by decide) rfl rfl ?_
              refine GT_skip_ld rfl rfl rfl rfl rfl (by decide) rfl rfl rfl (GR_skip rfl rfl rfl rfl rfl (by decide) rfl rfl (GR_skip rfl rfl rfl rfl rfl (by decide) rfl rfl (GR_skip rfl rfl rfl rfl rfl (by decide) rfl rfl (GR_skip rfl rfl rfl rfl rfl (by decide) rfl rfl (GR_skip rfl rfl rfl rfl rfl (by decide) rfl rfl (GR_skip rfl rfl rfl rfl rfl (by decide) rfl rfl (GR_skip rfl rfl rfl rfl rfl (by decide) rfl rfl (GR_skip rfl rfl rfl rfl rfl (by decide) rfl rfl (GR_skip rfl rfl rfl rfl rfl (by decide) rfl rfl (GR_nil)))))))))) ?_
              refine GT_skip rfl rfl rfl rfl rfl (by decide) rfl rfl ?_
              refine GT_skip rfl rfl rfl rfl rfl (by decide) rfl rfl ?_
              refine GT_skip rfl rfl rfl rfl rfl (by decide) rfl rfl ?_
              refine GT_st rfl rfl rfl rfl (V_pick_t rfl rfl rfl) ?_
              refine GT_nil ?_
              refine GE_cond_t rfl ?_
              refine GE_seq ?_
              refine GE_slots (L' := []) trivial ?_
              refine GE_plain (.st 0 .nil) rfl ?_
              refine GT_st rfl rfl rfl rfl (V_assign rfl rfl) ?_
              refine GT_nil ?_
              refine GE_ret Tryd.func53 rfl (fun w hw => ⟨?_, hw.nil⟩)
              first | (rw [decide_eq_false]; intro hP; have := hP.1 i hil; unfold posOk at this; omega) | (refine congrArg Value.bool (decide_eq_decide.2 ⟨fun h => ⟨fun j hj => hps j (by omega), h⟩, fun h => h.2⟩))
            · skip
              refine GT_st_g rfl rfl rfl rfl rfl rfl rfl (V_move rfl rfl) ?_
              refine GT_st_g rfl rfl rfl rfl rfl rfl rfl (V_gtr rfl rfl rfl) ?_
              refine GT_st_g rfl rfl rfl rfl rfl rfl rfl (V_move rfl rfl) ?_
              first | refine GT_splitNot (d := 62) rfl (fun q7 => ?_) (fun q7 => ?_) | refine GT_split (d := 62) rfl (fun q7 => ?_) (fun q7 => ?_) | refine GT_splitNotB (d := 62) rfl (fun q7 => ?_) (fun q7 => ?_) | refine GT_splitB (d := 62) rfl (fun q7 => ?_) (fun q7 => ?_)
              · skip
                refine GT_st_g rfl rfl rfl rfl rfl rfl rfl (V_move rfl rfl) ?_
                refine GT_st_g rfl rfl rfl rfl rfl rfl rfl (V_move rfl rfl) ?_
                refine GT_st_g rfl rfl rfl rfl rfl rfl rfl (V_index rfl rfl rfl Tryd.underlying62 sz_3 (k := i) rfl hil (hy.isSome (k := i) (by omega))) ?_
                refine GT_st_g rfl rfl rfl rfl rfl rfl rfl (V_load rfl rfl ag_3 (CellAt.own0 (k := i) hy eI_len (by omega) (by rw [bgns_get hil]; rfl))) ?_
                refine GT_st_g rfl rfl rfl rfl rfl rfl rfl (V_move rfl rfl) ?_
                refine GT_st_g rfl rfl rfl rfl rfl rfl rfl (V_move rfl rfl) ?_
                refine GT_st_g rfl rfl rfl rfl rfl rfl rfl (V_sub rfl rfl rfl (wrap_i64 (by omega))) ?_
                refine GT_st_g rfl rfl rfl rfl rfl rfl rfl (V_index rfl rfl rfl Tryd.underlying62 sz_3 (k := i - 2) (by omega) (by omega) (hy.isSome (k := i) (by omega))) ?_
                refine GT_st_g rfl rfl rfl rfl rfl rfl rfl (V_load rfl rfl ag_3 (CellAt.own0 (k := i - 2) hy eI_len (by omega) (by rw [bgns_get (by omega)]; rfl))) ?_
                refine GT_st_g rfl rfl rfl rfl rfl rfl rfl (V_move rfl rfl) ?_
                refine GT_st_g rfl rfl rfl rfl rfl rfl rfl (V_move rfl rfl) ?_
                refine GT_st_g rfl rfl rfl rfl rfl rfl rfl (V_sub rfl rfl rfl (wrap_i64 (by omega))) ?_
                refine GT_st_g rfl rfl rfl rfl rfl rfl rfl (V_index rfl rfl rfl Tryd.underlying31 sz_30 (k := i - 2) (by omega) (by omega) (hp.isSome (k := i - 2) (by omega))) ?_
                refine GT_st_g rfl rfl rfl rfl rfl rfl rfl (V_loadN (vs := [_, _, _, _, _, _, _]) rfl rfl ag_30 sz_30 rfl (show CellsAt _ _ _ (ePrt (pt p (i - 2))) from hp.ats noM (by omega))) ?_
                refine GT_call0_g rfl rfl rfl rfl rfl rfl rfl rfl rfl rfl rfl rn_56 (fun w hw => C_rLong (x := pt p (i - 2)) (by omega)) (GR_cons_g rfl rfl rfl rfl rfl rfl rfl (V_move rfl rfl) (GR_cons_g rfl rfl rfl rfl rfl rfl rfl (V_move rfl rfl) (GR_cons_g rfl rfl rfl rfl rfl rfl rfl (V_index rfl rfl rfl Tryd.underlying62 sz_3 (k := i) rfl hil (hy.isSome (k := i) (by omega))) (GR_cons_g rfl rfl rfl rfl rfl rfl rfl (V_load rfl rfl ag_3 (CellAt.own0 (k := i) hy eI_len (by omega) (by rw [bgns_get hil]; rfl))) (GR_cons_g rfl rfl rfl rfl rfl rfl rfl (V_move rfl rfl) (GR_cons_g rfl rfl rfl rfl rfl rfl rfl (V_move rfl rfl) (GR_cons_g rfl rfl rfl rfl rfl rfl rfl (V_sub rfl rfl rfl (wrap_i64 (by omega))) (GR_cons_g rfl rfl rfl rfl rfl rfl rfl (V_index rfl rfl rfl Tryd.underlying62 sz_3 (k := i - 2) (by omega) (by omega) (hy.isSome (k := i) (by omega))) (GR_cons_g rfl rfl rfl rfl rfl rfl rfl (V_load rfl rfl ag_3 (CellAt.own0 (k := i - 2) hy eI_len (by omega) (by rw [bgns_get (by omega)]; rfl))) (GR_nil)))))))))) ?_
                refine GT_st_g rfl rfl rfl rfl rfl rfl rfl (V_add rfl rfl rfl (wrap_i64 (by omega))) ?_
                refine GT_st_g rfl rfl rfl rfl rfl rfl rfl (V_lss rfl rfl rfl) ?_
                refine GT_st_g rfl rfl rfl rfl rfl rfl rfl (V_pick_t rfl rfl rfl) ?_
                refine GT_st rfl rfl rfl rfl (V_pick_f rfl rfl rfl) ?_
                refine GT_nil ?_
                first | refine GE_condNot rfl (fun q8 => ?_) (fun q8 => ?_) | refine GE_cond rfl (fun q8 => ?_) (fun q8 => ?_) | refine GE_condNotB rfl (fun q8 => ?_) (fun q8 => ?_) | refine GE_condB rfl (fun q8 => ?_) (fun q8 => ?_)
                · skip
                  refine GE_seq ?_
                  refine GE_slots (L' := []) trivial ?_
                  refine GE_plain (.st 0 .nil) rfl ?_
                  refine GT_st rfl rfl rfl rfl (V_assign rfl rfl) ?_
                  refine GT_nil ?_
                  refine GE_ret Tryd.func53 rfl (fun w hw => ⟨?_, hw.nil⟩)
                  rw [decide_eq_false]; intro hP; have := hP.1 i hil; unfold posOk at this; omega
                · skip
                  refine GE_skip ?_
                  refine GE_inBlock ?_
                  refine GE_slots (L' := [(0, _), (3, _), (4, _), (5, _), (20, _), (21, _), (22, _), (23, _), (24, _), (27, _), (28, _), (29, _), (30, _), (31, _), (32, _), (33, _), (34, _), (35, _), (36, _), (37, _), (38, _), (39, _), (40, _), (41, _), (42, _), (43, _), (44, _), (45, _), (46, _), (47, _), (48, _), (49, _), (50, _), (51, _), (52, _), (53, _), (54, _), (55, _), (56, _), (57, _), (60, _), (61, _), (62, _), (63, _), (64, _), (65, _), (66, _), (67, _), (68, _), (69, _), (70, _), (71, _), (72, _), (73, _), (74, _), (75, _), (76, _), (77, _), (78, _), (79, _), (80, _)]) ⟨rfl, rfl, rfl, rfl, rfl, rfl, rfl, rfl, rfl, rfl, rfl, rfl, rfl, rfl, rfl, rfl, rfl, rfl, rfl, rfl, rfl, rfl, rfl, rfl, rfl, rfl, rfl, rfl, rfl, rfl, rfl, rfl, rfl, rfl, rfl, rfl, rfl, rfl, rfl, rfl, rfl, rfl, rfl, rfl, rfl, rfl, rfl, rfl, rfl, rfl, rfl, rfl, rfl, rfl, rfl, rfl, rfl, rfl, rfl, rfl, rfl, trivial⟩ ?_
                  refine GE_plain (.st 0 (.st 1 (.ld 2 [] .nil))) rfl ?_
                  refine GT_st rfl rfl rfl rfl (V_move rfl rfl) ?_
                  refine GT_st rfl rfl rfl rfl (V_add rfl rfl rfl (wrap_i64 (by omega))) ?_
                  refine GT_ldv rfl rfl rfl rfl rfl (V_assign rfl rfl) (GR_nil) ?_
                  refine GT_nil ?_
                  exact GE_to (ih (i + 1) ⟨by omega, fun j hj => by rcases Nat.lt_or_ge j i with r | r; exact hps j r; rw [show j = i by omega]; unfold posOk; omega⟩ (by omega)) ⟨rfl, rfl, rfl, rfl, trivial⟩ HS.all
              · skip
                refine GT_skip rfl rfl rfl rfl rfl (by decide) rfl rfl ?_
                refine GT_skip rfl rfl rfl rfl rfl (by decide) rfl rfl ?_
                refine GT_skip rfl rfl rfl rfl rfl (by decide) rfl rfl ?_
                refine GT_skip rfl rfl rfl rfl rfl (by decide) rfl rfl ?_
                refine GT_skip rfl rfl rfl rfl rfl (by decide) rfl rfl ?_
                refine GT_skip rfl rfl rfl rfl rfl (by decide) rfl rfl ?_
                refine GT_skip rfl rfl rfl rfl rfl (by decide) rfl rfl ?_
                refine GT_skip rfl rfl rfl rfl rfl (by decide) rfl rfl ?_
                refine GT_skip rfl rfl rfl rfl rfl (by decide) rfl rfl ?_
                refine GT_skip rfl rfl rfl rfl rfl (by decide) rfl rfl ?_
                refine GT_skip rfl rfl rfl rfl rfl (by decide) rfl rfl ?_
                refine GT_skip rfl rfl rfl rfl rfl (by decide) rfl rfl ?_
                refine GT_skip rfl rfl rfl rfl rfl (by decide) rfl rfl ?_
                refine GT_skip rfl rfl rfl rfl rfl (by decide) rfl rfl ?_
                refine GT_skip_ld rfl rfl rfl rfl rfl (by decide) rfl rfl rfl (GR_skip rfl rfl rfl rfl rfl (by decide) rfl rfl (GR_skip rfl rfl rfl rfl rfl (by decide) rfl rfl (GR_skip rfl rfl rfl rfl rfl (by decide) rfl rfl (GR_skip rfl rfl rfl rfl rfl (by decide) rfl rfl (GR_skip rfl rfl rfl rfl rfl (by decide) rfl rfl (GR_skip rfl rfl rfl rfl rfl (by decide) rfl rfl (GR_skip rfl rfl rfl rfl rfl (by decide) rfl rfl (GR_skip rfl rfl rfl rfl rfl (by decide) rfl rfl (GR_skip rfl rfl rfl rfl rfl (by decide) rfl rfl (GR_nil)))))))))) ?_
                refine GT_skip rfl rfl rfl rfl rfl (by decide) rfl rfl ?_
                refine GT_skip rfl rfl rfl rfl rfl (by decide) rfl rfl ?_
                refine GT_st_g rfl rfl rfl rfl rfl rfl rfl (V_pick_f rfl rfl rfl) ?_
                refine GT_st rfl rfl rfl rfl (V_pick_f rfl rfl rfl) ?_
                refine GT_nil ?_
                refine GE_cond_f rfl ?_
                refine GE_skip ?_
                refine GE_inBlock ?_
                refine GE_slots (L' := [(0, _), (3, _), (4, _), (5, _), (20, _), (21, _), (22, _), (23, _), (24, _), (27, _), (28, _), (29, _), (30, _), (31, _), (32, _), (33, _), (34, _), (35, _), (36, _), (37, _), (38, _), (39, _), (40, _), (41, _), (42, _), (43, _), (44, _), (45, _), (46, _), (47, _), (48, _), (49, _), (50, _), (51, _), (52, _), (53, _), (54, _), (55, _), (56, _), (57, _), (60, _), (61, _), (62, _), (63, _), (64, _), (65, _), (66, _), (67, _), (68, _), (69, _), (70, _), (71, _), (72, _), (73, _), (74, _), (75, _), (76, _), (77, _), (78, _), (79, _), (80, _)]) ⟨rfl, rfl, rfl, rfl, rfl, rfl, rfl, rfl, rfl, rfl, rfl, rfl, rfl, rfl, rfl, rfl, rfl, rfl, rfl, rfl, rfl, rfl, rfl, rfl, rfl, rfl, rfl, rfl, rfl, rfl, rfl, rfl, rfl, rfl, rfl, rfl, rfl, rfl, rfl, rfl, rfl, rfl, rfl, rfl, rfl, rfl, rfl, rfl, rfl, rfl, rfl, rfl, rfl, rfl, rfl, rfl, rfl, rfl, rfl, rfl, rfl, trivial⟩ ?_
                refine GE_plain (.st 0 (.st 1 (.ld 2 [] .nil))) rfl ?_
                refine GT_st rfl rfl rfl rfl (V_move rfl rfl) ?_
                refine GT_st rfl rfl rfl rfl (V_add rfl rfl rfl (wrap_i64 (by omega))) ?_
                refine GT_ldv rfl rfl rfl rfl rfl (V_assign rfl rfl) (GR_nil) ?_
                refine GT_nil ?_
                exact GE_to (ih (i + 1) ⟨by omega, fun j hj => by rcases Nat.lt_or_ge j i with r | r; exact hps j r; rw [show j = i by omega]; unfold posOk; omega⟩ (by omega)) ⟨rfl, rfl, rfl, rfl, trivial⟩ HS.all
        · skip
          refine GT_skip rfl rfl rfl rfl rfl (by decide) rfl rfl ?_
          refine GT_skip rfl rfl rfl rfl rfl (by decide) rfl rfl ?_
          refine GT_skip rfl rfl rfl rfl rfl (by decide) rfl rfl ?_
          refine GT_skip rfl rfl rfl rfl rfl (by decide) rfl rfl ?_
          refine GT_skip rfl rfl rfl rfl rfl (by decide) rfl rfl ?_
          refine GT_skip rfl rfl rfl rfl rfl (by decide) rfl rfl ?_
          refine GT_skip rfl rfl rfl rfl rfl (by decide) rfl rfl ?_
          refine GT_skip rfl rfl rfl rfl rfl (by decide) rfl rfl ?_
          refine GT_skip rfl rfl rfl rfl rfl (by decide) rfl rfl ?_
          refine GT_skip_ld rfl rfl rfl rfl rfl (by decide) rfl rfl rfl (GR_skip rfl rfl rfl rfl rfl (by decide) rfl rfl (GR_skip rfl rfl rfl rfl rfl (by decide) rfl rfl (GR_skip rfl rfl rfl rfl rfl (by decide) rfl rfl (GR_skip rfl rfl rfl rfl rfl (by decide) rfl rfl (GR_skip rfl rfl rfl rfl rfl (by decide) rfl rfl (GR_nil)))))) ?_
          refine GT_skip rfl rfl rfl rfl rfl (by decide) rfl rfl ?_
          refine GT_skip rfl rfl rfl rfl rfl (by decide) rfl rfl ?_
          refine GT_skip rfl rfl rfl rfl rfl (by decide) rfl rfl ?_
          refine GT_skip rfl rfl rfl rfl rfl (by decide) rfl rfl ?_
          refine GT_skip rfl rfl rfl rfl rfl (by decide) rfl rfl ?_
          refine GT_skip rfl rfl rfl rfl rfl (by decide) rfl rfl ?_
          refine GT_skip rfl rfl rfl rfl rfl (by decide) rfl rfl ?_
          refine GT_skip rfl rfl rfl rfl rfl (by decide) rfl rfl ?_
          refine GT_skip rfl rfl rfl rfl rfl (by decide) rfl rfl ?_
          refine GT_skip rfl rfl rfl rfl rfl (by decide) rfl rfl ?_
          refine GT_skip rfl rfl rfl rfl rfl (by decide) rfl rfl ?_
          refine GT_skip rfl rfl rfl rfl rfl (by decide) rfl rfl ?_
          refine GT_skip rfl rfl rfl rfl rfl (by decide) rfl rfl ?_
          refine GT_skip_ld rfl rfl rfl rfl rfl (by decide) rfl rfl rfl (GR_skip rfl rfl rfl rfl rfl (by decide) rfl rfl (GR_skip rfl rfl rfl rfl rfl (by decide) rfl rfl (GR_skip rfl rfl rfl rfl rfl (by decide) rfl rfl (GR_skip rfl rfl rfl rfl rfl (by decide) rfl rfl (GR_skip rfl rfl rfl rfl rfl (by decide) rfl rfl (GR_nil)))))) ?_
          refine GT_skip rfl rfl rfl rfl rfl (by decide) rfl rfl ?_
          refine GT_skip rfl rfl rfl rfl rfl (by decide) rfl rfl ?_
          refine GT_skip rfl rfl rfl rfl rfl (by decide) rfl rfl ?_
          refine GT_st_g rfl rfl rfl rfl rfl rfl rfl (V_pick_f rfl rfl rfl) ?_
          refine GT_st rfl rfl rfl rfl (V_pick_f rfl rfl rfl) ?_
          refine GT_st rfl rfl rfl rfl (V_move rfl rfl) ?_
          refine GT_st_g rfl rfl rfl rfl rfl rfl rfl (V_move rfl rfl) ?_
          refine GT_st_g rfl rfl rfl rfl rfl rfl rfl (V_gtr rfl rfl rfl) ?_
          refine GT_st_g rfl rfl rfl rfl rfl rfl rfl (V_move rfl rfl) ?_
          first | refine GT_splitNot (d := 62) rfl (fun q7 => ?_) (fun q7 => ?_) | refine GT_split (d := 62) rfl (fun q7 => ?_) (fun q7 => ?_) | refine GT_splitNotB (d := 62) rfl (fun q7 => ?_) (fun q7 => ?_) | refine GT_splitB (d := 62) rfl (fun q7 => ?_) (fun q7 => ?_)
          · skip
            refine GT_st_g rfl rfl rfl rfl rfl rfl rfl (V_move rfl rfl) ?_
            refine GT_st_g rfl rfl rfl rfl rfl rfl rfl (V_move rfl rfl) ?_
            refine GT_st_g rfl rfl rfl rfl rfl rfl rfl (V_index rfl rfl rfl Tryd.underlying62 sz_3 (k := i) rfl hil (hy.isSome (k := i) (by omega))) ?_
            refine GT_st_g rfl rfl rfl rfl rfl rfl rfl (V_load rfl rfl ag_3 (CellAt.own0 (k := i) hy eI_len (by omega) (by rw [bgns_get hil]; rfl))) ?_
            refine GT_st_g rfl rfl rfl rfl rfl rfl rfl (V_move rfl rfl) ?_
            refine GT_st_g rfl rfl rfl rfl rfl rfl rfl (V_move rfl rfl) ?_
            refine GT_st_g rfl rfl rfl rfl rfl rfl rfl (V_sub rfl rfl rfl (wrap_i64 (by omega))) ?_
            refine GT_st_g rfl rfl rfl rfl rfl rfl rfl (V_index rfl rfl rfl Tryd.underlying62 sz_3 (k := i - 2) (by omega) (by omega) (hy.isSome (k := i) (by omega))) ?_
            refine GT_st_g rfl rfl rfl rfl rfl rfl rfl (V_load rfl rfl ag_3 (CellAt.own0 (k := i - 2) hy eI_len (by omega) (by rw [bgns_get (by omega)]; rfl))) ?_
            refine GT_st_g rfl rfl rfl rfl rfl rfl rfl (V_move rfl rfl) ?_
            refine GT_st_g rfl rfl rfl rfl rfl rfl rfl (V_move rfl rfl) ?_
            refine GT_st_g rfl rfl rfl rfl rfl rfl rfl (V_sub rfl rfl rfl (wrap_i64 (by omega))) ?_
            refine GT_st_g rfl rfl rfl rfl rfl rfl rfl (V_index rfl rfl rfl Tryd.underlying31 sz_30 (k := i - 2) (by omega) (by omega) (hp.isSome (k := i - 2) (by omega))) ?_
            refine GT_st_g rfl rfl rfl rfl rfl rfl rfl (V_loadN (vs := [_, _, _, _, _, _, _]) rfl rfl ag_30 sz_30 rfl (show CellsAt _ _ _ (ePrt (pt p (i - 2))) from hp.ats noM (by omega))) ?_
            refine GT_call0_g rfl rfl rfl rfl rfl rfl rfl rfl rfl rfl rfl rn_56 (fun w hw => C_rLong (x := pt p (i - 2)) (by omega)) (GR_cons_g rfl rfl rfl rfl rfl rfl rfl (V_move rfl rfl) (GR_cons_g rfl rfl rfl rfl rfl rfl rfl (V_move rfl rfl) (GR_cons_g rfl rfl rfl rfl rfl rfl rfl (V_index rfl rfl rfl Tryd.underlying62 sz_3 (k := i) rfl hil (hy.isSome (k := i) (by omega))) (GR_cons_g rfl rfl rfl rfl rfl rfl rfl (V_load rfl rfl ag_3 (CellAt.own0 (k := i) hy eI_len (by omega) (by rw [bgns_get hil]; rfl))) (GR_cons_g rfl rfl rfl rfl rfl rfl rfl (V_move rfl rfl) (GR_cons_g rfl rfl rfl rfl rfl rfl rfl (V_move rfl rfl) (GR_cons_g rfl rfl rfl rfl rfl rfl rfl (V_sub rfl rfl rfl (wrap_i64 (by omega))) (GR_cons_g rfl rfl rfl rfl rfl rfl rfl (V_index rfl rfl rfl Tryd.underlying62 sz_3 (k := i - 2) (by omega) (by omega) (hy.isSome (k := i) (by omega))) (GR_cons_g rfl rfl rfl rfl rfl rfl rfl (V_load rfl rfl ag_3 (CellAt.own0 (k := i - 2) hy eI_len (by omega) (by rw [bgns_get (by omega)]; rfl))) (GR_nil)))))))))) ?_
            refine GT_st_g rfl rfl rfl rfl rfl rfl rfl (V_add rfl rfl rfl (wrap_i64 (by omega))) ?_
            refine GT_st_g rfl rfl rfl rfl rfl rfl rfl (V_lss rfl rfl rfl) ?_
            refine GT_st_g rfl rfl rfl rfl rfl rfl rfl (V_pick_t rfl rfl rfl) ?_
            refine GT_st rfl rfl rfl rfl (V_pick_f rfl rfl rfl) ?_
            refine GT_nil ?_
            first | refine GE_condNot rfl (fun q8 => ?_) (fun q8 => ?_) | refine GE_cond rfl (fun q8 => ?_) (fun q8 => ?_) | refine GE_condNotB rfl (fun q8 => ?_) (fun q8 => ?_) | refine GE_condB rfl (fun q8 => ?_) (fun q8 => ?_)
            · skip
              refine GE_seq ?_
              refine GE_slots (L' := []) trivial ?_
              refine GE_plain (.st 0 .nil) rfl ?_
              refine GT_st rfl rfl rfl rfl (V_assign rfl rfl) ?_
              refine GT_nil ?_
              refine GE_ret Tryd.func53 rfl (fun w hw => ⟨?_, hw.nil⟩)
              rw [decide_eq_false]; intro hP; have := hP.1 i hil; unfold posOk at this; omega
            · skip
              refine GE_skip ?_
              refine GE_inBlock ?_
              refine GE_slots (L' := [(0, _), (3, _), (4, _), (5, _), (20, _), (21, _), (22, _), (23, _), (24, _), (27, _), (28, _), (29, _), (30, _), (31, _), (32, _), (33, _), (34, _), (35, _), (36, _), (37, _), (38, _), (39, _), (40, _), (41, _), (42, _), (43, _), (44, _), (45, _), (46, _), (47, _), (48, _), (49, _), (50, _), (51, _), (52, _), (53, _), (54, _), (55, _), (56, _), (57, _), (60, _), (61, _), (62, _), (63, _), (64, _), (65, _), (66, _), (67, _), (68, _), (69, _), (70, _), (71, _), (72, _), (73, _), (74, _), (75, _), (76, _), (77, _), (78, _), (79, _), (80, _)]) ⟨rfl, rfl, rfl, rfl, rfl, rfl, rfl, rfl, rfl, rfl, rfl, rfl, rfl, rfl, rfl, rfl, rfl, rfl, rfl, rfl, rfl, rfl, rfl, rfl, rfl, rfl, rfl, rfl, rfl, rfl, rfl, rfl, rfl, rfl, rfl, rfl, rfl, rfl, rfl, rfl, rfl, rfl, rfl, rfl, rfl, rfl, rfl, rfl, rfl, rfl, rfl, rfl, rfl, rfl, rfl, rfl, rfl, rfl, rfl, rfl, rfl, trivial⟩ ?_
              refine GE_plain (.st 0 (.st 1 (.ld 2 [] .nil))) rfl ?_
              refine GT_st rfl rfl rfl rfl (V_move rfl rfl) ?_
              refine GT_st rfl rfl rfl rfl (V_add rfl rfl rfl (wrap_i64 (by omega))) ?_
              refine GT_ldv rfl rfl rfl rfl rfl (V_assign rfl rfl) (GR_nil) ?_
              refine GT_nil ?_
              exact GE_to (ih (i + 1) ⟨by omega, fun j hj => by rcases Nat.lt_or_ge j i with r | r; exact hps j r; rw [show j = i by omega]; unfold posOk; omega⟩ (by omega)) ⟨rfl, rfl, rfl, rfl, trivial⟩ HS.all
          · skip
            refine GT_skip rfl rfl rfl rfl rfl (by decide) rfl rfl ?_
            refine GT_skip rfl rfl rfl rfl rfl (by decide) rfl rfl ?_
            refine GT_skip rfl rfl rfl rfl rfl (by decide) rfl rfl ?_
            refine GT_skip rfl rfl rfl rfl rfl (by decide) rfl rfl ?_
            refine GT_skip rfl rfl rfl rfl rfl (by decide) rfl rfl ?_
            refine GT_skip rfl rfl rfl rfl rfl (by decide) rfl rfl ?_
            refine GT_skip rfl rfl rfl rfl rfl (by decide) rfl rfl ?_
            refine GT_skip rfl rfl rfl rfl rfl (by decide) rfl rfl ?_
            refine GT_skip rfl rfl rfl rfl rfl (by decide) rfl rfl ?_
            refine GT_skip rfl rfl rfl rfl rfl (by decide) rfl rfl ?_
            refine GT_skip rfl rfl rfl rfl rfl (by decide) rfl rfl ?_
            refine GT_skip rfl rfl rfl rfl rfl (by decide) rfl rfl ?_
            refine GT_skip rfl rfl rfl rfl rfl (by decide) rfl rfl ?_
            refine GT_skip rfl rfl rfl rfl rfl (by decide) rfl rfl ?_
            refine GT_skip_ld rfl rfl rfl rfl rfl (by decide) rfl rfl rfl (GR_skip rfl rfl rfl rfl rfl (by decide) rfl rfl (GR_skip rfl rfl rfl rfl rfl (by decide) rfl rfl (GR_skip rfl rfl rfl rfl rfl (by decide) rfl rfl (GR_skip rfl rfl rfl rfl rfl (by decide) rfl rfl (GR_skip rfl rfl rfl rfl rfl (by decide) rfl rfl (GR_skip rfl rfl rfl rfl rfl (by decide) rfl rfl (GR_skip rfl rfl rfl rfl rfl (by decide) rfl rfl (GR_skip rfl rfl rfl rfl rfl (by decide) rfl rfl (GR_skip rfl rfl rfl rfl rfl (by decide) rfl rfl (GR_nil)))))))))) ?_
            refine GT_skip rfl rfl rfl rfl rfl (by decide) rfl rfl ?_
            refine GT_skip rfl rfl rfl rfl rfl (by decide) rfl rfl ?_
            refine GT_st_g rfl rfl rfl rfl rfl rfl rfl (V_pick_f rfl rfl rfl) ?_
            refine GT_st rfl rfl rfl rfl (V_pick_f rfl rfl rfl) ?_
            refine GT_nil ?_
            refine GE_cond_f rfl ?_
            refine GE_skip ?_
            refine GE_inBlock ?_
            refine GE_slots (L' := [(0, _), (3, _), (4, _), (5, _), (20, _), (21, _), (22, _), (23, _), (24, _), (27, _), (28, _), (29, _), (30, _), (31, _), (32, _), (33, _), (34, _), (35, _), (36, _), (37, _), (38, _), (39, _), (40, _), (41, _), (42, _), (43, _), (44, _), (45, _), (46, _), (47, _), (48, _), (49, _), (50, _), (51, _), (52, _), (53, _), (54, _), (55, _), (56, _), (57, _), (60, _), (61, _), (62, _), (63, _), (64, _), (65, _), (66, _), (67, _), (68, _), (69, _), (70, _), (71, _), (72, _), (73, _), (74, _), (75, _), (76, _), (77, _), (78, _), (79, _), (80, _)]) ⟨rfl, rfl, rfl, rfl, rfl, rfl, rfl, rfl, rfl, rfl, rfl, rfl, rfl, rfl, rfl, rfl, rfl, rfl, rfl, rfl, rfl, rfl, rfl, rfl, rfl, rfl, rfl, rfl, rfl, rfl, rfl, rfl, rfl, rfl, rfl, rfl, rfl, rfl, rfl, rfl, rfl, rfl, rfl, rfl, rfl, rfl, rfl, rfl, rfl, rfl, rfl, rfl, rfl, rfl, rfl, rfl, rfl, rfl, rfl, rfl, rfl, trivial⟩ ?_
            refine GE_plain (.st 0 (.st 1 (.ld 2 [] .nil))) rfl ?_
            refine GT_st rfl rfl rfl rfl (V_move rfl rfl) ?_
            refine GT_st rfl rfl rfl rfl (V_add rfl rfl rfl (wrap_i64 (by omega))) ?_
            refine GT_ldv rfl rfl rfl rfl rfl (V_assign rfl rfl) (GR_nil) ?_
            refine GT_nil ?_
            exact GE_to (ih (i + 1) ⟨by omega, fun j hj => by rcases Nat.lt_or_ge j i with r | r; exact hps j r; rw [show j = i by omega]; unfold posOk; omega⟩ (by omega)) ⟨rfl, rfl, rfl, rfl, trivial⟩ HS.all
    · skip
      refine GE_exit rfl ?_
      refine GE_seq ?_
      refine GE_slots (L' := [(4, _)]) ⟨rfl, trivial⟩ ?_
      refine GE_plain (.st 0 (.st 1 (.st 2 .nil))) rfl ?_
      refine GT_st rfl rfl rfl rfl (V_move rfl rfl) ?_
      refine GT_st rfl rfl rfl rfl (V_leq rfl rfl rfl) ?_
      refine GT_st rfl rfl rfl rfl (V_assign rfl rfl) ?_
      refine GT_nil ?_
      refine GE_ret Tryd.func53 rfl (fun w hw => ⟨?_, hw.nil⟩)
      first | (rw [decide_eq_false]; intro hP; have := hP.1 i hil; unfold posOk at this; omega) | (refine congrArg Value.bool (decide_eq_decide.2 ⟨fun h => ⟨fun j hj => hps j (by omega), h⟩, fun h => h.2⟩))
  · exact ⟨Nat.zero_le _, fun i hi => absurd hi (Nat.not_lt_zero _)⟩
theorem C_rCheckProgramme (h : Tks w A l) (hp : RdL w 7 ePrt A2 p) : Con0 Tryd.prog 21 [.slice A l.length c, .slice A2 p.length c2] w (I (gErr l p)) := by
  refine Ret_of (vs := [_, _]) hm none' Tryd.func21 rfl Tryd.ntmps21 rfl ?_
  dsimp only [slotsOf]
  refine GE_seq ?_
  refine GE_plain (.st 0 .nil) rfl ?_
  refine GT_st rfl rfl rfl rfl (V_assign rfl rfl) ?_
  refine GT_nil ?_
  refine GE_seq ?_
  refine GE_seq ?_
  refine GE_plain (.st 0 (.ld 1 [] (.st 2 .nil))) rfl ?_
  refine GT_st rfl rfl rfl rfl (V_move rfl rfl) ?_
  refine GT_call0 rfl rfl rfl rfl rfl rfl rfl rfl rn_38 (fun w hw => C_rCheckTakes (h.sh hw)) (GR_nil) ?_
  refine GT_st rfl rfl rfl rfl (V_neq rfl rfl rfl) ?_
  refine GT_nil ?_
  first | refine GE_condNot rfl (fun q1 => ?_) (fun q1 => ?_) | refine GE_cond rfl (fun q1 => ?_) (fun q1 => ?_) | refine GE_condNotB rfl (fun q1 => ?_) (fun q1 => ?_) | refine GE_condB rfl (fun q1 => ?_) (fun q1 => ?_)
  · skip
    refine GE_seq ?_
    refine GE_slots (L' := [(0, _)]) ⟨rfl, trivial⟩ ?_
    refine GE_plain (.st 0 (.ld 1 [] (.st 2 .nil))) rfl ?_
    refine GT_st rfl rfl rfl rfl (V_move rfl rfl) ?_
    refine GT_call0 rfl rfl rfl rfl rfl rfl rfl rfl rn_38 (fun w hw => C_rCheckTakes (h.sh hw)) (GR_nil) ?_
    refine GT_st rfl rfl rfl rfl (V_assign rfl rfl) ?_
    refine GT_nil ?_
    refine GE_ret Tryd.func21 rfl (fun w hw => ⟨?_, hw.nil⟩)
    rw [gErr, if_neg q1]
  · have hl := lErr_zero.1 q1
    refine GE_skip ?_
    refine GE_seq ?_
    refine GE_seq ?_
    refine GE_slots (L' := [(0, _), (1, _)]) ⟨rfl, rfl, trivial⟩ ?_
    refine GE_plain (.st 0 (.st 1 (.st 2 .nil))) rfl ?_
    refine GT_st rfl rfl rfl rfl (V_move rfl rfl) ?_
    refine GT_st rfl rfl rfl rfl (V_len rfl Tryd.underlying31 rfl) ?_
    refine GT_st rfl rfl rfl rfl (V_gtr rfl rfl rfl) ?_
    refine GT_nil ?_
    first | refine GE_condNot rfl (fun q2 => ?_) (fun q2 => ?_) | refine GE_cond rfl (fun q2 => ?_) (fun q2 => ?_) | refine GE_condNotB rfl (fun q2 => ?_) (fun q2 => ?_) | refine GE_condB rfl (fun q2 => ?_) (fun q2 => ?_)
    · skip
      refine GE_seq ?_
      refine GE_slots (L' := []) trivial ?_
      refine GE_plain (.st 0 .nil) rfl ?_
      refine GT_st rfl rfl rfl rfl (V_assign rfl rfl) ?_
      refine GT_nil ?_
      refine GE_ret Tryd.func21 rfl (fun w hw => ⟨?_, hw.nil⟩)
      rw [gErr, if_pos q1, if_pos (by omega)]
    · skip
      refine GE_skip ?_
      refine GE_seq ?_
      refine GE_seq ?_
      refine GE_plain (.st 0 .nil) rfl ?_
      refine GT_st rfl rfl rfl rfl (V_assign rfl rfl) ?_
      refine GT_nil ?_
      refine GE_block ?_
      refine GE_to (GE_loop (ι := Nat) (fun k => p.length - k) (fun k => [(0, .slice A l.length c), (1, .slice A2 p.length c2), (5, I k)]) (fun k => []) (fun k => k ≤ p.length ∧ ∀ i, i < k → goodP l (pt p i) = true) ?_ 0 ?_) ⟨rfl, rfl, rfl, trivial⟩ HS.nil
      · rintro k ⟨hk, hgd⟩ ih
        refine GE_seq ?_
        refine GE_seq ?_
        refine GE_plain (.st 0 (.st 1 (.st 2 (.st 3 .nil)))) rfl ?_
        refine GT_st rfl rfl rfl rfl (V_move rfl rfl) ?_
        refine GT_st rfl rfl rfl rfl (V_move rfl rfl) ?_
        refine GT_st rfl rfl rfl rfl (V_len rfl Tryd.underlying31 rfl) ?_
        refine GT_st rfl rfl rfl rfl (V_lss rfl rfl rfl) ?_
        refine GT_nil ?_
        first | refine GE_condNot rfl (fun q3 => ?_) (fun q3 => ?_) | refine GE_cond rfl (fun q3 => ?_) (fun q3 => ?_) | refine GE_condNotB rfl (fun q3 => ?_) (fun q3 => ?_) | refine GE_condB rfl (fun q3 => ?_) (fun q3 => ?_)
        · have hkl : k < p.length := (by omega)
          refine GE_skip ?_
          refine GE_seq ?_
          refine GE_block ?_
          refine GE_seq ?_
          refine GE_slots (L' := [(0, _), (1, _), (5, _)]) ⟨rfl, rfl, rfl, trivial⟩ ?_
          refine GE_plain (.st 0 (.st 1 (.st 2 (.st 3 (.st 4 (.ld 5 [] (.st 6 .nil))))))) rfl ?_
          refine GT_st rfl rfl rfl rfl (V_move rfl rfl) ?_
          refine GT_st rfl rfl rfl rfl (V_move rfl rfl) ?_
          refine GT_st rfl rfl rfl rfl (V_move rfl rfl) ?_
          refine GT_st rfl rfl rfl rfl (V_index rfl rfl rfl Tryd.underlying31 sz_30 (k := k) rfl hkl (hp.isSome hkl)) ?_
          refine GT_st rfl rfl rfl rfl (V_loadN (vs := [_, _, _, _, _, _, _]) rfl rfl ag_30 sz_30 rfl (show CellsAt _ _ _ (ePrt (pt p k)) from hp.ats noM hkl)) ?_
          refine GT_call0 rfl rfl rfl rfl rfl rfl rfl rfl rn_52 (fun w hw => C_rpart (x := pt p k) (h.sh hw)) (GR_nil) ?_
          first | refine GT_st rfl rfl rfl rfl (V_not rfl rfl) ?_ | refine GT_st rfl rfl rfl rfl (V_notB rfl rfl) ?_
          refine GT_nil ?_
          first | refine GE_condNot rfl (fun q4 => ?_) (fun q4 => ?_) | refine GE_cond rfl (fun q4 => ?_) (fun q4 => ?_) | refine GE_condNotB rfl (fun q4 => ?_) (fun q4 => ?_) | refine GE_condB rfl (fun q4 => ?_) (fun q4 => ?_)
          · skip
            refine GE_seq ?_
            refine GE_slots (L' := []) trivial ?_
            refine GE_plain (.st 0 .nil) rfl ?_
            refine GT_st rfl rfl rfl rfl (V_assign rfl rfl) ?_
            refine GT_nil ?_
            refine GE_ret Tryd.func21 rfl (fun w hw => ⟨?_, hw.nil⟩)
            rw [gErr, if_pos q1, if_neg (by omega), if_neg (by rw [all_split hkl q4]; decide)]
          · skip
            refine GE_skip ?_
            refine GE_inBlock ?_
            refine GE_slots (L' := [(0, _), (1, _), (5, _)]) ⟨rfl, rfl, rfl, trivial⟩ ?_
            refine GE_plain (.st 0 (.st 1 (.ld 2 [] .nil))) rfl ?_
            refine GT_st rfl rfl rfl rfl (V_move rfl rfl) ?_
            refine GT_st rfl rfl rfl rfl (V_add rfl rfl rfl (wrap_i64 (by omega))) ?_
            refine GT_ldv rfl rfl rfl rfl rfl (V_assign rfl rfl) (GR_nil) ?_
            refine GT_nil ?_
            exact GE_to (ih (k + 1) ⟨by omega, fun i hi => by rcases Nat.lt_or_ge i k with r | r; exact hgd i r; rw [show i = k by omega]; exact q4⟩ (by omega)) ⟨rfl, rfl, rfl, trivial⟩ HS.nil
        · have hG : Gd l p := ⟨hl, by omega, fun i hi => goodP_iff.1 (hgd i (by omega))⟩; have hall : p.all (goodP l) = true := all_getD.2 fun i hi => hgd i (by omega)
          refine GE_exit rfl ?_
          refine GE_seq ?_
          refine GE_seq ?_
          refine GE_slots (L' := [(1, _)]) ⟨rfl, trivial⟩ ?_
          refine GE_plain (.st 0 (.ld 1 [] (.st 2 .nil))) rfl ?_
          refine GT_st rfl rfl rfl rfl (V_move rfl rfl) ?_
          refine GT_call0 rfl rfl rfl rfl rfl rfl rfl rfl rn_53 (fun w hw => C_rpossible hG (hp.sh hw)) (GR_nil) ?_
          first | refine GT_st rfl rfl rfl rfl (V_not rfl rfl) ?_ | refine GT_st rfl rfl rfl rfl (V_notB rfl rfl) ?_
          refine GT_nil ?_
          first | refine GE_condNot rfl (fun q5 => ?_) (fun q5 => ?_) | refine GE_cond rfl (fun q5 => ?_) (fun q5 => ?_) | refine GE_condNotB rfl (fun q5 => ?_) (fun q5 => ?_) | refine GE_condB rfl (fun q5 => ?_) (fun q5 => ?_)
          · skip
            refine GE_seq ?_
            refine GE_slots (L' := []) trivial ?_
            refine GE_plain (.st 0 .nil) rfl ?_
            refine GT_st rfl rfl rfl rfl (V_assign rfl rfl) ?_
            refine GT_nil ?_
            refine GE_ret Tryd.func21 rfl (fun w hw => ⟨?_, hw.nil⟩)
            first | rw [gErr, if_pos q1, if_neg (by omega), if_pos hall, if_neg q5] | rw [gErr, if_pos q1, if_neg (by omega), if_pos hall, if_neg (of_decide_eq_false q5)]
          · skip
            refine GE_skip ?_
            refine GE_seq ?_
            refine GE_slots (L' := []) trivial ?_
            refine GE_plain (.st 0 .nil) rfl ?_
            refine GT_st rfl rfl rfl rfl (V_assign rfl rfl) ?_
            refine GT_nil ?_
            refine GE_ret Tryd.func21 rfl (fun w hw => ⟨?_, hw.nil⟩)
            first | rw [gErr, if_pos q1, if_neg (by omega), if_pos hall, if_pos q5] | rw [gErr, if_pos q1, if_neg (by omega), if_pos hall, if_pos (of_decide_eq_true q5)]
      · exact ⟨Nat.zero_le _, fun i hi => absurd hi (Nat.not_lt_zero _)⟩
end
end Go.Proofs.YtnklkobhjdkblaaDoor

namespace Go.Proofs.YtnklkobhjdkblaaDoor
open Go.Sx Go.Proofs Go.RowKit

section
variable {w : World} {A A2 : Option Addr} {c c2 : Nat} {s : List Sam}
end
end Go.Proofs.YtnklkobhjdkblaaDoor

namespace Go.Proofs.YtnklkobhjdkblaaDoor
open Go.Sx Go.Proofs Go.RowKit

section
variable {w : World} {A A2 B : Option Addr} {c c2 : Nat} {l : List Tk} {p : List Prt}
theorem C_SameN {a b : List Sam} {n m : Nat} (hn : a.length ≤ 1000000000000) (ha : RdL w 2 eSam A a) (hb : RdL w 2 eSam B b) (h1 : n = a.length) (h2 : m = b.length) : Con0 Tryd.prog 22 [.slice A n c, .slice B m c2] w (.bool (decide (a = b))) := by
  subst h1; subst h2; exact C_Same hn ha hb
theorem C_SameT {a b : List Sam} {n m : Nat} (h : a = b) (hn : a.length ≤ 1000000000000) (ha : RdL w 2 eSam A a) (hb : RdL w 2 eSam B b) (h1 : n = a.length) (h2 : m = b.length) : Con0 Tryd.prog 22 [.slice A n c, .slice B m c2] w (.bool true) := by
  have := C_SameN (c := c) (c2 := c2) hn ha hb h1 h2
  rw [decide_eq_true h] at this
  exact this
end
end Go.Proofs.YtnklkobhjdkblaaDoor

namespace Go.Proofs.YtnklkobhjdkblaaDoor
open Go.Sx Go.Proofs Go.RowKit

section
variable {w : World} {A A2 : Option Addr} {c c2 : Nat} {l : List Tk} {p : List Prt} {t : Int}
abbrev OI := Option Addr × Nat × Items
end
end Go.Proofs.YtnklkobhjdkblaaDoor

namespace Go.Proofs.YtnklkobhjdkblaaDoor
open Go.Sx Go.Proofs Go.RowKit

theorem rendL_len {l : List Tk} {p : List Prt} (h : ProgOk l p) : (rendL l p).length ≤ (fin p).toNat ∧ (rErr l p = 0 → (rendL l p).length = (fin p).toNat) := by
  unfold rendL
  split
  · rw [rend, mix_len]; exact ⟨Nat.le_refl _, fun _ => rfl⟩
  · rename_i hn; exact ⟨Nat.zero_le _, fun e => absurd e hn⟩
section
variable {w : World} {A A2 : Option Addr} {c c2 : Nat} {l : List Tk} {p : List Prt} {t : Int}
end
end Go.Proofs.YtnklkobhjdkblaaDoor

namespace Go.Proofs.YtnklkobhjdkblaaDoor
open Go.Sx Go.Proofs Go.RowKit

structure Src where
  part : Int
  tk : Int
  ix : Int
instance : Inhabited Src := ⟨⟨0, 0, 0⟩⟩
section
variable {w : World} {A A2 : Option Addr} {c c2 : Nat} {l : List Tk} {p : List Prt} {t : Int}
end
end Go.Proofs.YtnklkobhjdkblaaDoor

namespace Go.Proofs.YtnklkobhjdkblaaDoor
open Go.Sx Go.Proofs Go.RowKit

section
variable {w : World} {A A2 A' : Option Addr} {c c2 c' g bq b3 : Nat} {l : List Tk} {p : List Prt}
theorem plc_ats {C : Cx} {H : Items} {k : Nat} (h : RdL C.w0 10 ePlc A' (plcs p p.length)) (hM : ∀ b, ¬ C.M b) (hk : k < p.length) : CellsAt C H ((ad A').add (k * 10)) [I (pt p k).tk, I (pt p k).fr, I (pt p k).to, I (pt p k).gap, I (pt p k).inn, I (pt p k).out, I (pt p k).lev, I k, I (bgn p k), I (en p k)] := by
  have := h.ats (H := H) hM (k := k) (by rw [plcs_len]; exact hk)
  rw [plcs_get hk, ePlc_plc] at this
  exact this
set_option maxRecDepth 10000 in
set_option maxHeartbeats 2000000 in
theorem C_hold {f : Int} (hbq : BlkAt w bq [ptr g 0] 76) (hbg : BlkAt w g [.slice A l.length c, .slice A' p.length c', I (fin p)] 81) (hpl : RdL w 10 ePlc A' (plcs p p.length)) (h : Tks w A l) (hP : ProgOk l p) (hf0 : 0 ≤ f) (hf1 : f ≤ 4000) :
    Con0 Tryd.prog 58 [I f, ptr bq 0] w (.bool (okH l p f)) := by
  have hfl := hP.fin
  have hfn := fin_nonneg hP
  have hpm := hP.most
  have hnn : (0 : Int) ≤ f := hf0
  refine Ret_of (vs := [_, _]) hm none' Tryd.func58 rfl Tryd.ntmps58 rfl ?_
  dsimp only [slotsOf]
  refine GE_seq ?_
  refine GE_plain (.st 0 .nil) rfl ?_
  refine GT_st rfl rfl rfl rfl (V_assign rfl rfl) ?_
  refine GT_nil ?_
  refine GE_seq ?_
  refine GE_plain (.st 0 (.st 1 (.st 2 (.st 3 (.ld 4 [] (.st 5 .nil)))))) rfl ?_
  first | refine GT_st rfl rfl rfl rfl (V_load rfl rfl ag_76 (CellAt.item rfl)) ?_ | refine GT_st rfl rfl rfl rfl (V_load rfl rfl ag_76 (CellAt.old (hbq.cell rfl) (noM _))) ?_ | refine GT_st rfl rfl rfl rfl (V_load rfl rfl ag_76 (CellAt.old (hbg.cell rfl) (noM _))) ?_
  first | refine GT_st rfl rfl rfl rfl (V_nilCheck rfl rfl) ?_ | refine GT_st rfl rfl rfl rfl (V_nilCheck_func rfl rfl) ?_ | refine GT_st rfl rfl rfl rfl (V_nilCheck_yield rfl rfl) ?_
  first | refine GT_st rfl rfl rfl rfl (V_field rfl rfl fo_81_2) ?_ | refine GT_st rfl rfl rfl rfl (V_fieldA rfl rfl fo_81_2) ?_
  first | refine GT_st rfl rfl rfl rfl (V_load rfl rfl ag_3 (CellAt.item rfl)) ?_ | refine GT_st rfl rfl rfl rfl (V_load rfl rfl ag_3 (CellAt.old (hbq.cell rfl) (noM _))) ?_ | refine GT_st rfl rfl rfl rfl (V_load rfl rfl ag_3 (CellAt.old (hbg.cell rfl) (noM _))) ?_
  refine GT_makeSlice rfl rfl rfl rfl rfl rfl rfl Tryd.underlying22 zc_35 sz_35 by_35 (nn := (fin p).toNat) ⟨by omega, by omega, rfl⟩ ⟨by omega, by omega⟩ (fun _ => GR_nil) (fun b12 => ?_)
  refine GT_st rfl rfl rfl rfl (V_assign rfl rfl) ?_
  refine GT_nil ?_
  refine GE_seq ?_
  refine GE_seq ?_
  refine GE_slots (L' := [(0, _), (1, _), (4, _)]) ⟨rfl, rfl, rfl, trivial⟩ ?_
  refine GE_plain (.st 0 (.st 1 (.st 2 (.st 3 (.st 4 (.st 5 .nil)))))) rfl ?_
  first | refine GT_st rfl rfl rfl rfl (V_load rfl rfl ag_76 (CellAt.item rfl)) ?_ | refine GT_st rfl rfl rfl rfl (V_load rfl rfl ag_76 (CellAt.old (hbq.cell rfl) (noM _))) ?_ | refine GT_st rfl rfl rfl rfl (V_load rfl rfl ag_76 (CellAt.old (hbg.cell rfl) (noM _))) ?_
  first | refine GT_st rfl rfl rfl rfl (V_nilCheck rfl rfl) ?_ | refine GT_st rfl rfl rfl rfl (V_nilCheck_func rfl rfl) ?_ | refine GT_st rfl rfl rfl rfl (V_nilCheck_yield rfl rfl) ?_
  first | refine GT_st rfl rfl rfl rfl (V_field rfl rfl fo_81_1) ?_ | refine GT_st rfl rfl rfl rfl (V_fieldA rfl rfl fo_81_1) ?_
  first | refine GT_st rfl rfl rfl rfl (V_load rfl rfl ag_79 (CellAt.item rfl)) ?_ | refine GT_st rfl rfl rfl rfl (V_load rfl rfl ag_79 (CellAt.old (hbq.cell rfl) (noM _))) ?_ | refine GT_st rfl rfl rfl rfl (V_load rfl rfl ag_79 (CellAt.old (hbg.cell rfl) (noM _))) ?_
  refine GT_st rfl rfl rfl rfl (V_len rfl Tryd.underlying79 rfl) ?_
  refine GT_st rfl rfl rfl rfl (V_move rfl rfl) ?_
  refine GT_nil ?_
  refine GE_block ?_
  refine GE_to (GE_loop (ι := Nat × Items) (fun x => p.length - x.1) (fun x => [(0, I f), (1, ptr bq 0), (4, .slice (some ⟨b12, 0, none⟩) (fin p).toNat (fin p).toNat), (16, .slice A' p.length c'), (17, I p.length), (18, I x.1)]) (fun x => x.2) (fun x => x.1 ≤ p.length ∧ Own 2 35 eSam (mixP p (vH l p f) x.1) (.slice (some ⟨b12, 0, none⟩) (fin p).toNat (fin p).toNat) x.2) ?_ (0, [(b12, blk ((List.replicate (fin p).toNat [I 0, I 0]).flatten) 35)]) ?_) ⟨rfl, rfl, rfl, rfl, rfl, rfl, trivial⟩ HS.last
  · rintro ⟨i, I1⟩ ⟨hi, hO⟩ ih; dsimp only at hi hO ih ⊢
    refine GE_seq ?_
    refine GE_plain (.st 0 .nil) rfl ?_
    refine GT_st rfl rfl rfl rfl (V_lss rfl rfl rfl) ?_
    refine GT_nil ?_
    refine GE_seq ?_
    first | refine GE_condNot rfl (fun h1 => ?_) (fun h1 => ?_) | refine GE_cond rfl (fun h1 => ?_) (fun h1 => ?_) | refine GE_condNotB rfl (fun h1 => ?_) (fun h1 => ?_) | refine GE_condB rfl (fun h1 => ?_) (fun h1 => ?_)
    · have hil : i < p.length := (by omega); have hbi := bgn_mono hP i hil; have hei := en_fin hP hil; have hlp := lng_pos (hP.each i hil); have hen : en p i = bgn p i + lng (pt p i) := rfl; have hlf := lev_f (hP.each i hil) hf0 hf1; obtain ⟨bn, hbn⟩ : ∃ bn : Nat, bgn p i = bn := ⟨(bgn p i).toNat, by omega⟩
      refine GE_skip ?_
      refine GE_seq ?_
      refine GE_block ?_
      refine GE_seq ?_
      refine GE_plain (.st 0 (.st 1 (.ld 2 [] (.ld 3 [] .nil)))) rfl ?_
      refine GT_st rfl rfl rfl rfl (V_index rfl rfl rfl Tryd.underlying79 sz_83 (k := i) rfl hil (hpl.isSome (k := i) (by rw [plcs_len]; exact hil))) ?_
      refine GT_st rfl rfl rfl rfl (V_loadN (vs := [_, _, _, _, _, _, _, _, _, _]) rfl rfl ag_83 sz_83 rfl (plc_ats hpl noM hil)) ?_
      refine GT_alloc rfl rfl rfl rfl rfl zc_83 (fun _ => GR_nil) (fun b6 => ?_)
      refine GT_store (vs := [_, _, _, _, _, _, _, _, _, _]) (l' := [_, _, _, _, _, _, _, _, _, _]) rfl rfl rfl rfl rfl rfl rfl sz_83 rfl rfl (Nat.le_of_ble_eq_true rfl) rfl (GR_nil) ?_
      refine GT_nil ?_
      refine GE_seq ?_
      refine GE_plain (.st 0 (.st 1 (.st 2 .nil))) rfl ?_
      first | refine GT_st rfl rfl rfl rfl (V_field rfl rfl fo_83_2) ?_ | refine GT_st rfl rfl rfl rfl (V_fieldA rfl rfl fo_83_2) ?_
      first | refine GT_st rfl rfl rfl rfl (V_load rfl rfl ag_3 (CellAt.item rfl)) ?_ | refine GT_st rfl rfl rfl rfl (V_load rfl rfl ag_3 (CellAt.old (hbq.cell rfl) (noM _))) ?_ | refine GT_st rfl rfl rfl rfl (V_load rfl rfl ag_3 (CellAt.old (hbg.cell rfl) (noM _))) ?_
      refine GT_st rfl rfl rfl rfl (V_assign rfl rfl) ?_
      refine GT_nil ?_
      refine GE_block ?_
      refine GE_to (GE_loop (ι := Nat × Items) (fun x => (fin p).toNat - x.1) (fun x => [(0, I f), (1, ptr bq 0), (4, .slice (some ⟨b12, 0, none⟩) (fin p).toNat (fin p).toNat), (6, ptr b6 0), (7, I x.1), (16, .slice A' p.length c'), (17, I p.length), (18, I i)]) (fun x => (b6, blk [I (pt p i).tk, I (pt p i).fr, I (pt p i).to, I (pt p i).gap, I (pt p i).inn, I (pt p i).out, I (pt p i).lev, I i, I (bgn p i), I (en p i)] 83) :: x.2) (fun x => bgn p i ≤ x.1 ∧ (x.1 : Int) ≤ en p i ∧ Own 2 35 eSam (mixS p (vH l p f) i x.1) (.slice (some ⟨b12, 0, none⟩) (fin p).toNat (fin p).toNat) x.2) ?_ (bn, I1) ?_) ⟨rfl, rfl, rfl, rfl, lookI rfl hbn, rfl, rfl, rfl, trivial⟩ (HS.cons rfl HS.last)
      · rintro ⟨t, I2⟩ ⟨ht1, ht2, hO2⟩ ih2; dsimp only at ht1 ht2 hO2 ih2 ⊢
        refine GE_seq ?_
        refine GE_seq ?_
        refine GE_plain (.st 0 (.st 1 (.st 2 (.st 3 .nil)))) rfl ?_
        refine GT_st rfl rfl rfl rfl (V_move rfl rfl) ?_
        first | refine GT_st rfl rfl rfl rfl (V_field rfl rfl fo_83_3) ?_ | refine GT_st rfl rfl rfl rfl (V_fieldA rfl rfl fo_83_3) ?_
        first | refine GT_st rfl rfl rfl rfl (V_load rfl rfl ag_3 (CellAt.item rfl)) ?_ | refine GT_st rfl rfl rfl rfl (V_load rfl rfl ag_3 (CellAt.old (hbq.cell rfl) (noM _))) ?_ | refine GT_st rfl rfl rfl rfl (V_load rfl rfl ag_3 (CellAt.old (hbg.cell rfl) (noM _))) ?_
        refine GT_st rfl rfl rfl rfl (V_lss rfl rfl rfl) ?_
        refine GT_nil ?_
        first | refine GE_condNot rfl (fun h2 => ?_) (fun h2 => ?_) | refine GE_cond rfl (fun h2 => ?_) (fun h2 => ?_) | refine GE_condNotB rfl (fun h2 => ?_) (fun h2 => ?_) | refine GE_condB rfl (fun h2 => ?_) (fun h2 => ?_)
        · have htl : t < (fin p).toNat := (by omega); have hml2 := mixS_len p (vH l p f) i t; have hnb := mixN_bd8 hP (fun i k a b c => (vH_bd hP hf0 hf1 i k a b c).1) (Nat.le_of_lt hil) (t : Int); have hvb := vH_bd hP hf0 hf1 i ((t : Int) - bgn p i) hil (by omega) (by omega)
          refine GE_skip ?_
          refine GE_seq ?_
          refine GE_block ?_
          refine GE_slots (L' := [(0, _), (1, _), (4, _), (6, _), (7, _), (16, _), (17, _), (18, _)]) ⟨rfl, rfl, rfl, rfl, rfl, rfl, rfl, rfl, trivial⟩ ?_
          refine GE_drawn (.st 0 (.st 1 (.st 2 (.st 3 (.st 4 (.st 5 (.st 6 (.st 7 (.st 8 (.st 9 (.st 10 (.st 11 (.st 12 (.st 13 (.st 14 (.st 15 (.st 16 (.st 17 (.ld 18 [0, 1, 2, 3, 4, 5] (.ld 19 [0, 1, 2, 3, 4, 5] (.ld 20 [0, 1] (.st 21 (.ld 22 [] .nil))))))))))))))))))))))) [18, 19, 20, 22] (by decide +kernel) ?_
          refine GT_st rfl rfl rfl rfl (V_move rfl rfl) ?_
          refine GT_st rfl rfl rfl rfl (V_move rfl rfl) ?_
          refine GT_st rfl rfl rfl rfl (V_move rfl rfl) ?_
          refine GT_st rfl rfl rfl rfl (V_move rfl rfl) ?_
          refine GT_st rfl rfl rfl rfl (V_index rfl rfl rfl Tryd.underlying22 sz_35 (k := t) rfl htl rfl) ?_
          refine GT_st rfl rfl rfl rfl (V_loadN (vs := [_, _]) rfl rfl ag_35 sz_35 rfl (CellsAt.ownE hO2 eSam_len (by omega) (by rw [mixS_at htl]; rfl))) ?_
          first | refine GT_st rfl rfl rfl rfl (V_load rfl rfl ag_76 (CellAt.item rfl)) ?_ | refine GT_st rfl rfl rfl rfl (V_load rfl rfl ag_76 (CellAt.old (hbq.cell rfl) (noM _))) ?_ | refine GT_st rfl rfl rfl rfl (V_load rfl rfl ag_76 (CellAt.old (hbg.cell rfl) (noM _))) ?_
          refine GT_st rfl rfl rfl rfl (V_loadN (vs := [_, _, _, _, _, _, _, _, _, _]) rfl rfl ag_83 sz_83 rfl (CellsAt.item rfl)) ?_
          refine GT_st rfl rfl rfl rfl (V_move rfl rfl) ?_
          first | refine GT_st rfl rfl rfl rfl (V_field rfl rfl fo_83_2) ?_ | refine GT_st rfl rfl rfl rfl (V_fieldA rfl rfl fo_83_2) ?_
          first | refine GT_st rfl rfl rfl rfl (V_load rfl rfl ag_3 (CellAt.item rfl)) ?_ | refine GT_st rfl rfl rfl rfl (V_load rfl rfl ag_3 (CellAt.old (hbq.cell rfl) (noM _))) ?_ | refine GT_st rfl rfl rfl rfl (V_load rfl rfl ag_3 (CellAt.old (hbg.cell rfl) (noM _))) ?_
          refine GT_st rfl rfl rfl rfl (V_sub rfl rfl rfl (wrap_i64 (by omega))) ?_
          first | refine GT_st rfl rfl rfl rfl (V_field rfl rfl fo_83_0) ?_ | refine GT_st rfl rfl rfl rfl (V_fieldA rfl rfl fo_83_0) ?_
          first | refine GT_st rfl rfl rfl rfl (V_field rfl rfl fo_30_6) ?_ | refine GT_st rfl rfl rfl rfl (V_fieldA rfl rfl fo_30_6) ?_
          first | refine GT_st rfl rfl rfl rfl (V_load rfl rfl ag_2 (CellAt.item rfl)) ?_ | refine GT_st rfl rfl rfl rfl (V_load rfl rfl ag_2 (CellAt.old (hbq.cell rfl) (noM _))) ?_ | refine GT_st rfl rfl rfl rfl (V_load rfl rfl ag_2 (CellAt.old (hbg.cell rfl) (noM _))) ?_
          refine GT_st rfl rfl rfl rfl (V_move rfl rfl) ?_
          refine GT_st rfl rfl rfl rfl (V_mul rfl rfl rfl (wrap_i64 (by omega))) ?_
          refine GT_st rfl rfl rfl rfl (V_quo rfl rfl rfl (by omega) (wrap_i64 (by omega))) ?_
          refine GT_call0 rfl rfl rfl rfl rfl rfl rfl rfl rn_48 (fun w hw => C_sound (i := i) (k := (t : Int) - bgn p i) (lev := ((pt p i).lev * f).tdiv 1000) hil hP (by omega) (by omega) hlf.2.2.1 hlf.2.2.2 (h.sh hw) (hbg.sh hw)) (GR_cons rfl rfl rfl rfl (V_move rfl rfl) (GR_cons rfl rfl rfl rfl (V_move rfl rfl) (GR_cons rfl rfl rfl rfl (V_move rfl rfl) (GR_cons rfl rfl rfl rfl (V_move rfl rfl) (GR_cons rfl rfl rfl rfl (V_index rfl rfl rfl Tryd.underlying22 sz_35 (k := t) rfl htl rfl) (GR_cons rfl rfl rfl rfl (V_loadN (vs := [_, _]) rfl rfl ag_35 sz_35 rfl (CellsAt.ownE hO2 eSam_len (by omega) (by rw [mixS_at htl]; rfl))) (GR_nil))))))) ?_
          refine GT_call0 rfl rfl rfl rfl rfl rfl rfl rfl rn_51 (fun w hw => C_amounts (a := snd l (pt p i) ((t : Int) - bgn p i) (((pt p i).lev * f).tdiv 1000)) (Sam.bd.mono hvb.2 (by decide))) (GR_cons rfl rfl rfl rfl (V_move rfl rfl) (GR_cons rfl rfl rfl rfl (V_move rfl rfl) (GR_cons rfl rfl rfl rfl (V_move rfl rfl) (GR_cons rfl rfl rfl rfl (V_move rfl rfl) (GR_cons rfl rfl rfl rfl (V_index rfl rfl rfl Tryd.underlying22 sz_35 (k := t) rfl htl rfl) (GR_cons rfl rfl rfl rfl (V_loadN (vs := [_, _]) rfl rfl ag_35 sz_35 rfl (CellsAt.ownE hO2 eSam_len (by omega) (by rw [mixS_at htl]; rfl))) (GR_nil))))))) ?_
          refine GT_call0 rfl rfl rfl rfl rfl rfl rfl rfl rn_47 (fun w hw => C_sum (a := mixN p (vH l p f) i t) (b := vH l p f i ((t : Int) - bgn p i)) hnb (Sam.bd.mono hvb.1 (by decide))) (GR_cons rfl rfl rfl rfl (V_move rfl rfl) (GR_cons rfl rfl rfl rfl (V_move rfl rfl) (GR_nil))) ?_
          refine GT_st rfl rfl rfl rfl (V_index rfl rfl rfl Tryd.underlying22 sz_35 (k := t) rfl htl rfl) ?_
          refine GT_storeOwn (enc := eSam) (q := t) (xx := sad (mixN p (vH l p f) i t) (vH l p f i ((t : Int) - bgn p i))) rfl rfl rfl rfl rfl rfl rfl sz_35 hO2 eSam_len eSam_one (by omega) (by decide) (fun _ _ => GR_nil) (fun I3 hO3 => ?_)
          refine GT_nil ?_
          refine GE_inBlock ?_
          refine GE_slots (L' := [(0, _), (1, _), (4, _), (6, _), (7, _), (16, _), (17, _), (18, _)]) ⟨rfl, rfl, rfl, rfl, rfl, rfl, rfl, rfl, trivial⟩ ?_
          rw [mixS_set htl ht1 h2] at hO3
          refine GE_plain (.st 0 (.st 1 (.ld 2 [] .nil))) rfl ?_
          refine GT_st rfl rfl rfl rfl (V_move rfl rfl) ?_
          refine GT_st rfl rfl rfl rfl (V_add rfl rfl rfl (wrap_i64 (by omega))) ?_
          refine GT_ldv rfl rfl rfl rfl rfl (V_assign rfl rfl) (GR_nil) ?_
          refine GT_nil ?_
          exact GE_to (ih2 (t + 1, I3) ⟨by dsimp only; omega, by dsimp only; omega, hO3⟩ (by dsimp only; omega)) ⟨rfl, rfl, rfl, rfl, rfl, rfl, rfl, rfl, trivial⟩ (HS.cons rfl HS.last)
        · have het : (t : Int) = en p i := (by omega)
          refine GE_exit rfl ?_
          refine GE_inBlock ?_
          refine GE_slots (L' := [(0, _), (1, _), (4, _), (16, _), (17, _), (18, _)]) ⟨rfl, rfl, rfl, rfl, rfl, rfl, trivial⟩ ?_
          refine GE_plain (.st 0 (.ld 1 [] .nil)) rfl ?_
          refine GT_st rfl rfl rfl rfl (V_add rfl rfl rfl (wrap_i64 (by omega))) ?_
          refine GT_ldv rfl rfl rfl rfl rfl (V_move rfl rfl) (GR_nil) ?_
          refine GT_nil ?_
          exact GE_to (ih (i + 1, I2) ⟨by dsimp only; omega, by rw [← mixS_end, ← het]; exact hO2⟩ (by dsimp only; omega)) ⟨rfl, rfl, rfl, rfl, rfl, rfl, trivial⟩ HS.last
      · exact ⟨by dsimp only; omega, by dsimp only; omega, by dsimp only; rw [← hbn, mixS_begin]; exact hO⟩
    · obtain rfl : i = p.length := (by omega); rw [mixP_all] at hO
      refine GE_exit rfl ?_
      refine GE_seq ?_
      refine GE_slots (L' := [(4, _)]) ⟨rfl, trivial⟩ ?_
      refine GE_plain (.st 0 (.ld 1 [] (.st 2 (.st 3 .nil)))) rfl ?_
      refine GT_st rfl rfl rfl rfl (V_move rfl rfl) ?_
      refine GT_call0 rfl rfl rfl rfl rfl rfl rfl rfl rn_29 (fun w hw => C_CheckSamplesN (s := mix p (vH l p f)) (mix_len p (vH l p f)) (hO.rdH eSam_len hw)) (GR_nil) ?_
      refine GT_st rfl rfl rfl rfl (V_eql rfl rfl rfl) ?_
      refine GT_st rfl rfl rfl rfl (V_assign rfl rfl) ?_
      refine GT_nil ?_
      refine GE_ret Tryd.func58 rfl (fun w hw => ⟨?_, hw.nil⟩)
      rfl
  · exact ⟨Nat.zero_le _, by rw [mixP_zero]; exact Own.made (x := (⟨0, 0⟩ : Sam)) rfl (by unfold maxLen; omega)⟩
theorem C_gr1 {i : Int} (hb3 : BlkAt w b3 [.func (.func 58) #[] #[ptr bq 0]] 93) (hbq : BlkAt w bq [ptr g 0] 76) (hbg : BlkAt w g [.slice A l.length c, .slice A' p.length c', I (fin p)] 81) (hpl : RdL w 10 ePlc A' (plcs p p.length)) (h : Tks w A l) (hP : ProgOk l p) (hi0 : 0 ≤ i) (hi1 : i < 4000) :
    Con0 Tryd.prog 70 [I i, ptr b3 0] w (.bool (!okH l p (i + 1))) := by
  refine Ret_of (vs := [_, _]) hm none' Tryd.func70 rfl Tryd.ntmps70 rfl ?_
  dsimp only [slotsOf]
  refine GE_seq ?_
  refine GE_plain (.st 0 .nil) rfl ?_
  refine GT_st rfl rfl rfl rfl (V_assign rfl rfl) ?_
  refine GT_nil ?_
  refine GE_seq ?_
  refine GE_plain (.st 0 (.st 1 (.st 2 (.ld 3 [] (.st 4 (.st 5 .nil)))))) rfl ?_
  refine GT_st rfl rfl rfl rfl (V_load rfl rfl ag_93 (.old (hb3.cell rfl) (noM _))) ?_
  refine GT_st rfl rfl rfl rfl (V_move rfl rfl) ?_
  refine GT_st rfl rfl rfl rfl (V_add rfl rfl rfl (wrap_i64 (by omega))) ?_
  refine GT_call0 rfl rfl rfl rfl rfl rfl rfl rfl rn_58 (fun w hw => C_hold (f := i + 1) (hbq.sh hw) (hbg.sh hw) (hpl.sh hw) (h.sh hw) hP (by omega) (by omega)) (GR_nil) ?_
  first | refine GT_st rfl rfl rfl rfl (V_not rfl rfl) ?_ | refine GT_st rfl rfl rfl rfl (V_notB rfl rfl) ?_
  refine GT_st rfl rfl rfl rfl (V_assign rfl rfl) ?_
  refine GT_nil ?_
  refine GE_ret Tryd.func70 rfl (fun w hw => ⟨?_, hw.nil⟩)
  unfold okH; simp
theorem C_Search (hb3 : BlkAt w b3 [.func (.func 58) #[] #[ptr bq 0]] 93) (hbq : BlkAt w bq [ptr g 0] 76) (hbg : BlkAt w g [.slice A l.length c, .slice A' p.length c', I (fin p)] 81) (hpl : RdL w 10 ePlc A' (plcs p p.length)) (h : Tks w A l) (hP : ProgOk l p) :
    Con0 Tryd.prog 69 [I 4000, .func (.func 70) #[] #[ptr b3 0]] w (I (hd l p)) := by
  have hb := hd_bd l p
  refine Ret_of (vs := [_, _]) hm none' Tryd.func69 rfl Tryd.ntmps69 rfl ?_
  dsimp only [slotsOf]
  refine GE_seq ?_
  refine GE_plain (.st 0 .nil) rfl ?_
  refine GT_st rfl rfl rfl rfl (V_assign rfl rfl) ?_
  refine GT_nil ?_
  refine GE_seq ?_
  refine GE_plain (.st 0 (.st 1 (.st 2 .nil))) rfl ?_
  refine GT_st rfl rfl rfl rfl (V_move rfl rfl) ?_
  refine GT_st rfl rfl rfl rfl (V_assign rfl rfl) ?_
  refine GT_st rfl rfl rfl rfl (V_assign rfl rfl) ?_
  refine GT_nil ?_
  refine GE_seq ?_
  refine GE_block ?_
  refine GE_to (GE_loop (ι := Int × Int) (fun x => (x.2 - x.1).toNat) (fun x => [(1, .func (.func 70) #[] #[ptr b3 0]), (5, I x.1), (6, I x.2)]) (fun x => []) (fun x => 0 ≤ x.1 ∧ x.1 ≤ hd l p ∧ hd l p ≤ x.2 ∧ x.2 ≤ 4000) ?_ (0, 4000) ?_) ⟨rfl, rfl, rfl, trivial⟩ HS.nil
  · rintro ⟨lo, hi⟩ ⟨h0, h1, h2, h3⟩ ih; dsimp only at h0 h1 h2 h3 ih ⊢
    refine GE_seq ?_
    refine GE_seq ?_
    refine GE_plain (.st 0 (.st 1 (.st 2 .nil))) rfl ?_
    refine GT_st rfl rfl rfl rfl (V_move rfl rfl) ?_
    refine GT_st rfl rfl rfl rfl (V_move rfl rfl) ?_
    refine GT_st rfl rfl rfl rfl (V_lss rfl rfl rfl) ?_
    refine GT_nil ?_
    first | refine GE_condNot rfl (fun q1 => ?_) (fun q1 => ?_) | refine GE_cond rfl (fun q1 => ?_) (fun q1 => ?_) | refine GE_condNotB rfl (fun q1 => ?_) (fun q1 => ?_) | refine GE_condB rfl (fun q1 => ?_) (fun q1 => ?_)
    · skip
      refine GE_skip ?_
      refine GE_block ?_
      refine GE_seq ?_
      refine GE_plain (.st 0 (.st 1 (.st 2 (.st 3 (.st 4 (.st 5 (.st 6 .nil))))))) rfl ?_
      refine GT_st rfl rfl rfl rfl (V_move rfl rfl) ?_
      refine GT_st rfl rfl rfl rfl (V_move rfl rfl) ?_
      refine GT_st rfl rfl rfl rfl (V_add rfl rfl rfl (wrap_i64 (by omega))) ?_
      refine GT_st rfl rfl rfl rfl (V_convII rfl rfl (by rw [Tryd.underlying3]; rfl) Tryd.underlying113 (wrap_u64 (by omega))) ?_
      refine GT_st rfl rfl rfl rfl (V_shr (s := 1) (d := 2) rfl rfl rfl (by decide) (by decide)) ?_
      refine GT_st rfl rfl rfl rfl (V_convII rfl rfl (by rw [Tryd.underlying113]; rfl) Tryd.underlying3 (wrap_i64 (by omega))) ?_
      refine GT_st rfl rfl rfl rfl (V_assign rfl rfl) ?_
      refine GT_nil ?_
      refine GE_seq ?_
      refine GE_slots (L' := [(1, _), (5, _), (6, _), (7, _)]) ⟨rfl, rfl, rfl, rfl, trivial⟩ ?_
      refine GE_plain (.st 0 (.st 1 (.ld 2 [] (.st 3 .nil)))) rfl ?_
      refine GT_st rfl rfl rfl rfl (V_move rfl rfl) ?_
      refine GT_st rfl rfl rfl rfl (V_move rfl rfl) ?_
      refine GT_call0 rfl rfl rfl rfl rfl rfl rfl rfl rn_70 (fun w hw => C_gr1 (i := (lo + hi) / 2) (hb3.sh hw) (hbq.sh hw) (hbg.sh hw) (hpl.sh hw) (h.sh hw) hP (by omega) (by omega)) (GR_nil) ?_
      first | refine GT_st rfl rfl rfl rfl (V_not rfl rfl) ?_ | refine GT_st rfl rfl rfl rfl (V_notB rfl rfl) ?_
      refine GT_nil ?_
      first | refine GE_condNot rfl (fun q2 => ?_) (fun q2 => ?_) | refine GE_cond rfl (fun q2 => ?_) (fun q2 => ?_) | refine GE_condNotB rfl (fun q2 => ?_) (fun q2 => ?_) | refine GE_condB rfl (fun q2 => ?_) (fun q2 => ?_)
      · have q2' : okH l p ((lo + hi) / 2 + 1) = true := (by simpa using q2)
        refine GE_slots (L' := [(1, _), (6, _), (7, _)]) ⟨rfl, rfl, rfl, trivial⟩ ?_
        refine GE_plain (.st 0 (.st 1 (.st 2 .nil))) rfl ?_
        refine GT_st rfl rfl rfl rfl (V_move rfl rfl) ?_
        refine GT_st rfl rfl rfl rfl (V_add rfl rfl rfl (wrap_i64 (by omega))) ?_
        refine GT_st rfl rfl rfl rfl (V_assign rfl rfl) ?_
        refine GT_nil ?_
        refine GE_inBlock ?_
        first
          | exact GE_to (ih ((lo + hi) / 2 + 1, hi) ⟨by dsimp only; omega, by dsimp only; exact (hd_iff hP (by omega) (by omega)).1 q2', by dsimp only; omega, by dsimp only; omega⟩ (by dsimp only; omega)) ⟨rfl, rfl, rfl, trivial⟩ HS.nil
          | exact GE_to (ih (lo, (lo + hi) / 2) ⟨by dsimp only; omega, by dsimp only; omega, by dsimp only; have := mt (hd_iff (f := (lo + hi) / 2 + 1) hP (by omega) (by omega)).2 (by rw [q2']; decide); omega, by dsimp only; omega⟩ (by dsimp only; omega)) ⟨rfl, rfl, rfl, trivial⟩ HS.nil
      · have q2' : okH l p ((lo + hi) / 2 + 1) = false := (by simpa using q2)
        refine GE_slots (L' := [(1, _), (5, _), (7, _)]) ⟨rfl, rfl, rfl, trivial⟩ ?_
        refine GE_plain (.st 0 (.st 1 .nil)) rfl ?_
        refine GT_st rfl rfl rfl rfl (V_move rfl rfl) ?_
        refine GT_st rfl rfl rfl rfl (V_assign rfl rfl) ?_
        refine GT_nil ?_
        refine GE_inBlock ?_
        first
          | exact GE_to (ih ((lo + hi) / 2 + 1, hi) ⟨by dsimp only; omega, by dsimp only; exact (hd_iff hP (by omega) (by omega)).1 q2', by dsimp only; omega, by dsimp only; omega⟩ (by dsimp only; omega)) ⟨rfl, rfl, rfl, trivial⟩ HS.nil
          | exact GE_to (ih (lo, (lo + hi) / 2) ⟨by dsimp only; omega, by dsimp only; omega, by dsimp only; have := mt (hd_iff (f := (lo + hi) / 2 + 1) hP (by omega) (by omega)).2 (by rw [q2']; decide); omega, by dsimp only; omega⟩ (by dsimp only; omega)) ⟨rfl, rfl, rfl, trivial⟩ HS.nil
    · skip
      refine GE_exit rfl ?_
      refine GE_seq ?_
      refine GE_slots (L' := [(5, _)]) ⟨rfl, trivial⟩ ?_
      refine GE_plain (.st 0 (.st 1 .nil)) rfl ?_
      refine GT_st rfl rfl rfl rfl (V_move rfl rfl) ?_
      refine GT_st rfl rfl rfl rfl (V_assign rfl rfl) ?_
      refine GT_nil ?_
      refine GE_ret Tryd.func69 rfl (fun w hw => ⟨?_, hw.nil⟩)
      exact congrArg I (by omega)
  · exact ⟨by dsimp only; omega, by dsimp only; omega, by dsimp only; omega, by dsimp only; omega⟩
theorem C_greatest (hbq : BlkAt w bq [ptr g 0] 76) (hbg : BlkAt w g [.slice A l.length c, .slice A' p.length c', I (fin p)] 81) (hpl : RdL w 10 ePlc A' (plcs p p.length)) (h : Tks w A l) (hP : ProgOk l p) :
    Con0 Tryd.prog 57 [I 4000, .func (.func 58) #[] #[ptr bq 0]] w (I (hd l p)) := by
  refine Ret_of (vs := [_, _]) hm none' Tryd.func57 rfl Tryd.ntmps57 rfl ?_
  dsimp only [slotsOf]
  refine GE_seq ?_
  refine GE_plain (.ld 0 [] (.st 1 .nil)) rfl ?_
  refine GT_box (z := [_]) rfl rfl rfl rfl rfl rfl rfl (fun _ => GR_nil) (fun b3 => ?_)
  refine GT_st rfl rfl rfl rfl (V_assign rfl rfl) ?_
  refine GT_nil ?_
  refine GE_seq ?_
  refine GE_plain (.st 0 (.st 1 (.ld 2 [] (.st 3 .nil)))) rfl ?_
  refine GT_st rfl rfl rfl rfl (V_move rfl rfl) ?_
  refine GT_st rfl rfl rfl rfl (V_makeFunc rfl rfl rfl) ?_
  refine GT_call0 rfl rfl rfl rfl rfl rfl rfl rfl rn_69 (fun w hw => C_Search (BlkAt.of hw) (hbq.sh hw) (hbg.sh hw) (hpl.sh hw) (h.sh hw) hP) (GR_nil) ?_
  refine GT_st rfl rfl rfl rfl (V_assign rfl rfl) ?_
  refine GT_nil ?_
  refine GE_ret Tryd.func57 rfl (fun w hw => ⟨?_, hw.nil⟩)
  rfl
theorem C_Headroom (h : Tks w A l) (hp : RdL w 7 ePrt A2 p) : Con0 Tryd.prog 34 [.slice A l.length c, .slice A2 p.length c2] w (.tuple #[I (hdV l p), I (gErr l p)]) := by
  by_cases hg : gErr l p = 0
  · have hP := gErr_zero.1 hg
    refine Ret_of (vs := [_, _]) hm none' Tryd.func34 rfl Tryd.ntmps34 rfl ?_
    dsimp only [slotsOf]
    refine GE_seq ?_
    refine GE_plain (.st 0 (.st 1 .nil)) rfl ?_
    refine GT_st rfl rfl rfl rfl (V_assign rfl rfl) ?_
    refine GT_st rfl rfl rfl rfl (V_assign rfl rfl) ?_
    refine GT_nil ?_
    refine GE_seq ?_
    refine GE_plain (.st 0 (.st 1 (.ld 2 [] (.st 3 (.st 4 (.st 5 (.ld 6 [] (.ld 7 [] (.st 8 .nil))))))))) rfl ?_
    refine GT_st rfl rfl rfl rfl (V_move rfl rfl) ?_
    refine GT_st rfl rfl rfl rfl (V_move rfl rfl) ?_
    refine GT_call rfl rfl rfl rfl rfl rfl rfl rfl rn_46 (fun w hw => C_new_ok (h.sh hw) (hp.sh hw) hg) (fun _ _ => GR_nil) (fun y hy => ?_)
    refine GT_st rfl rfl rfl rfl (V_move rfl rfl) ?_
    refine GT_st rfl rfl rfl rfl (V_extract rfl rfl rfl) ?_
    refine GT_st rfl rfl rfl rfl (V_extract rfl rfl rfl) ?_
    refine GT_alloc rfl rfl rfl rfl rfl zc_76 (fun _ => GR_nil) (fun b6 => ?_)
    refine GT_store (vs := [_]) (l' := [_]) rfl rfl rfl rfl rfl rfl rfl sz_76 rfl rfl (Nat.le_of_ble_eq_true rfl) rfl (GR_nil) ?_
    refine GT_st rfl rfl rfl rfl (V_assign rfl rfl) ?_
    refine GT_nil ?_
    refine GE_seq ?_
    refine GE_seq ?_
    refine GE_slots (L' := [(6, _), (7, _)]) ⟨rfl, rfl, trivial⟩ ?_
    refine GE_plain (.st 0 (.st 1 .nil)) rfl ?_
    refine GT_st rfl rfl rfl rfl (V_move rfl rfl) ?_
    refine GT_st rfl rfl rfl rfl (V_isF (V_neq rfl rfl rfl) (by decide)) ?_
    refine GT_nil ?_
    refine GE_cond_f rfl ?_
    refine GE_skip ?_
    refine GE_seq ?_
    refine GE_plain (.st 0 (.ld 1 [] (.st 2 (.st 3 .nil)))) rfl ?_
    refine GT_st rfl rfl rfl rfl (V_makeFunc rfl rfl rfl) ?_
    refine GT_call0 rfl rfl rfl rfl rfl rfl rfl rfl rn_57 (fun w hw => C_greatest (BlkAt.of hw) (BlkAt.of hw) (hy.rdH ePlc_len hw) (h.sh hw) hP) (GR_nil) ?_
    refine GT_st rfl rfl rfl rfl (V_assign rfl rfl) ?_
    refine GT_st rfl rfl rfl rfl (V_assign rfl rfl) ?_
    refine GT_nil ?_
    refine GE_ret Tryd.func34 ⟨_, _, rfl, rfl, rfl⟩ (fun w hw => ⟨?_, hw.nil⟩)
    rw [hdV, if_pos hg, hg]
  · skip
    refine Ret_of (vs := [_, _]) hm none' Tryd.func34 rfl Tryd.ntmps34 rfl ?_
    dsimp only [slotsOf]
    refine GE_seq ?_
    refine GE_plain (.st 0 (.st 1 .nil)) rfl ?_
    refine GT_st rfl rfl rfl rfl (V_assign rfl rfl) ?_
    refine GT_st rfl rfl rfl rfl (V_assign rfl rfl) ?_
    refine GT_nil ?_
    refine GE_seq ?_
    refine GE_plain (.st 0 (.st 1 (.ld 2 [] (.st 3 (.st 4 (.st 5 (.ld 6 [] (.ld 7 [] (.st 8 .nil))))))))) rfl ?_
    refine GT_st rfl rfl rfl rfl (V_move rfl rfl) ?_
    refine GT_st rfl rfl rfl rfl (V_move rfl rfl) ?_
    refine GT_call0 rfl rfl rfl rfl rfl rfl rfl rfl rn_46 (fun w hw => C_new_bad (h.sh hw) (hp.sh hw) hg) (GR_nil) ?_
    refine GT_st rfl rfl rfl rfl (V_move rfl rfl) ?_
    refine GT_st rfl rfl rfl rfl (V_extract rfl rfl rfl) ?_
    refine GT_st rfl rfl rfl rfl (V_extract rfl rfl rfl) ?_
    refine GT_alloc rfl rfl rfl rfl rfl zc_76 (fun _ => GR_nil) (fun b6 => ?_)
    refine GT_store (vs := [_]) (l' := [_]) rfl rfl rfl rfl rfl rfl rfl sz_76 rfl rfl (Nat.le_of_ble_eq_true rfl) rfl (GR_nil) ?_
    refine GT_st rfl rfl rfl rfl (V_assign rfl rfl) ?_
    refine GT_nil ?_
    refine GE_seq ?_
    refine GE_seq ?_
    refine GE_slots (L' := [(6, _), (7, _)]) ⟨rfl, rfl, trivial⟩ ?_
    refine GE_plain (.st 0 (.st 1 .nil)) rfl ?_
    refine GT_st rfl rfl rfl rfl (V_move rfl rfl) ?_
    refine GT_st rfl rfl rfl rfl (V_isT (V_neq rfl rfl rfl) hg) ?_
    refine GT_nil ?_
    refine GE_cond_t rfl ?_
    refine GE_seq ?_
    refine GE_plain (.st 0 (.st 1 (.st 2 .nil))) rfl ?_
    refine GT_st rfl rfl rfl rfl (V_move rfl rfl) ?_
    refine GT_st rfl rfl rfl rfl (V_assign rfl rfl) ?_
    refine GT_st rfl rfl rfl rfl (V_assign rfl rfl) ?_
    refine GT_nil ?_
    refine GE_ret Tryd.func34 ⟨_, _, rfl, rfl, rfl⟩ (fun w hw => ⟨?_, hw.nil⟩)
    rw [hdV, if_neg hg]; rfl
end
end Go.Proofs.YtnklkobhjdkblaaDoor

namespace Go.Proofs.YtnklkobhjdkblaaDoor
open Go.Sx Go.Proofs Go.RowKit

section
variable {w : World} {A A2 A3 : Option Addr} {c c2 c3 : Nat} {l : List Tk} {p q : List Prt} {t : Int}
theorem C_HeadOk {n : Nat} (h : Tks w A l) (hp : RdL w 7 ePrt A2 p) (hn : n = p.length) (hP : ProgOk l p) : Con0 Tryd.prog 34 [.slice A l.length c, .slice A2 n c2] w (.tuple #[I (hd l p), I 0]) := by
  subst hn
  have := C_Headroom (c := c) (c2 := c2) h hp
  rw [hdV, if_pos (gErr_zero.2 hP), gErr_zero.2 hP] at this
  exact this
end
end Go.Proofs.YtnklkobhjdkblaaDoor

namespace Go.Proofs.YtnklkobhjdkblaaDoor
open Go.Sx Go.Proofs Go.RowKit

def pM (f : Prt → Prt) (p : List Prt) (i : Nat) : List Prt := (p.map f).take i ++ p.drop i
section
variable {p : List Prt} {f : Prt → Prt}
theorem pM_len {i : Nat} (hi : i ≤ p.length) : (pM f p i).length = p.length := by unfold pM; simp; omega
theorem pM_get {i : Nat} (hi : i < p.length) : (pM f p i).getD i default = pt p i := by
  unfold pM
  rw [List.getD, List.getElem?_append_right (by rw [List.length_take, List.length_map]; omega), List.length_take, List.length_map, Nat.min_eq_left (by omega), Nat.sub_self, List.getElem?_drop]; rfl
theorem pM_set {i : Nat} (hi : i < p.length) : (pM f p i).set i (f (pt p i)) = pM f p (i + 1) := by
  unfold pM
  have e1 : ((p.map f).take i).length = i := by rw [List.length_take, List.length_map]; omega
  rw [List.set_append_right _ _ (by omega), e1, Nat.sub_self, take_snoc (l := p.map f) (by rw [List.length_map]; exact hi), show (p.map f).getD i default = f (pt p i) by simp [pt, List.getD, hi], List.append_assoc]
  congr 1
  rw [List.drop_eq_getElem_cons hi]; rfl
theorem pM_zero : pM f p 0 = p := by unfold pM; simp
theorem pM_all : pM f p p.length = p.map f := by unfold pM; rw [List.drop_length, List.append_nil, List.take_of_length_le (by rw [List.length_map]; exact Nat.le_refl _)]
end
structure MirT (l m : List Tk) (i : Nat) : Prop where
  len : m.length = i
  name : ∀ j, j < i → (m.getD j default).name = (l.getD j default).name
  data : ∀ j, j < i → (m.getD j default).data = (l.getD j default).data.map mirS
  wf : ∀ t ∈ m, t.wf
theorem MirT.snoc {l m : List Tk} {i : Nat} (h : MirT l m i) {t : Tk} (h1 : t.name = (l.getD i default).name) (h2 : t.data = (l.getD i default).data.map mirS) (h3 : t.wf) : MirT l (m ++ [t]) (i + 1) := by
  have hl := h.len
  have key : ∀ j, j < i + 1 → (j < i ∧ (m ++ [t]).getD j default = m.getD j default) ∨ (j = i ∧ (m ++ [t]).getD j default = t) := by
    intro j hj
    by_cases hlt : j < i
    · exact .inl ⟨hlt, getD_app1 (by omega)⟩
    · obtain rfl : j = i := by omega
      refine .inr ⟨rfl, ?_⟩
      rw [← hl]; exact getD_app2
  refine ⟨by simp [hl], fun j hj => ?_, fun j hj => ?_, fun s hs => ?_⟩
  · rcases key j hj with ⟨hl, e⟩ | ⟨rfl, e⟩ <;> rw [e]
    · exact h.name j hl
    · exact h1
  · rcases key j hj with ⟨hl, e⟩ | ⟨rfl, e⟩ <;> rw [e]
    · exact h.data j hl
    · exact h2
  · rcases List.mem_append.1 hs with hs | hs
    · exact h.wf s hs
    · rw [List.mem_singleton.1 hs]; exact h3
theorem rendL_bd {l : List Tk} {p : List Prt} {k : Nat} (hk : k < (rendL l p).length) : -32767 ≤ ((rendL l p).getD k default).r ∧ ((rendL l p).getD k default).r ≤ 32767 := by
  by_cases e : rErr l p = 0
  · have e2 : rendL l p = rend l p := if_pos e
    rw [e2] at hk ⊢
    have hs : sErr (rend l p) = 0 := by
      rw [rErr] at e
      split at e
      · split at e
        · assumption
        · cases e
      · rename_i h; exact absurd e h
    exact (Sam.ok_iff.1 (all_getD.1 (sErr_zero.1 hs).2 k hk)).2
  · have e2 : rendL l p = [] := if_neg e
    rw [e2] at hk; exact absurd hk (Nat.not_lt_zero _)
theorem eTk_one : ∀ x, ∀ u ∈ eTk x, u.oneCell' = true := by intro x u hu; simp only [eTk, List.mem_cons, List.not_mem_nil, or_false] at hu; rcases hu with rfl | rfl <;> rfl
section
variable {w : World} {A A2 : Option Addr} {c c2 : Nat} {l : List Tk} {p : List Prt}
theorem C_RenderM {n nl : Nat} (h : Tks w A l) (hl : nl = l.length) (hp : RdL w 7 ePrt A2 p) (hn : n = p.length) : Con Tryd.prog 17 [.slice A nl c, .slice A2 n c2] w (fun y : Option Addr × Nat × Items => Own 2 35 eSam (rendL l p) (.slice y.1 (rendL l p).length y.2.1) y.2.2)
    (fun y => .tuple #[.slice y.1 (rendL l p).length y.2.1, I (rErr l p)]) (fun y => y.2.2) := by
  subst hn; subst hl; exact C_Render h hp
theorem C_HeadM {n nl : Nat} (h : Tks w A l) (hl : nl = l.length) (hp : RdL w 7 ePrt A2 p) (hn : n = p.length) (hP : ProgOk l p) : Con0 Tryd.prog 34 [.slice A nl c, .slice A2 n c2] w (.tuple #[I (hd l p), I 0]) := by
  subst hl; exact C_HeadOk h hp hn hP
set_option maxRecDepth 20000 in
set_option maxHeartbeats 4000000 in
theorem L_TakeMirrored (h : Tks w A l) (_hl : l.length ≤ c ∧ c ≤ maxLen) (hp : RdL w 7 ePrt A2 p) (_hx : p.length ≤ c2 ∧ c2 ≤ maxLen ∧ ∀ x ∈ p, x.wf) : Con0 Tryd.prog 10 [.slice A l.length c, .slice A2 p.length c2] w (.bool true) := by
  refine Ret_of (vs := [_, _]) hm none' Tryd.func10 rfl Tryd.ntmps10 rfl ?_
  dsimp only [slotsOf]
  refine GE_seq ?_
  refine GE_plain (.st 0 .nil) rfl ?_
  refine GT_st rfl rfl rfl rfl (V_assign rfl rfl) ?_
  refine GT_nil ?_
  refine GE_seq ?_
  refine GE_seq ?_
  refine GE_plain (.st 0 (.st 1 (.ld 2 [] (.st 3 (.st 4 (.st 5 (.ld 6 [] (.st 7 (.st 8 .nil))))))))) rfl ?_
  refine GT_st rfl rfl rfl rfl (V_move rfl rfl) ?_
  refine GT_st rfl rfl rfl rfl (V_move rfl rfl) ?_
  refine GT_call0 rfl rfl rfl rfl rfl rfl rfl rfl rn_20 (fun w hw => C_great (h.sh hw)) (GR_nil) ?_
  refine GT_st rfl rfl rfl rfl (V_move rfl rfl) ?_
  first | refine GT_splitNot (d := 28) rfl (fun q1 => ?_) (fun q1 => ?_) | refine GT_split (d := 28) rfl (fun q1 => ?_) (fun q1 => ?_) | refine GT_splitNotB (d := 28) rfl (fun q1 => ?_) (fun q1 => ?_) | refine GT_splitB (d := 28) rfl (fun q1 => ?_) (fun q1 => ?_)
  · skip
    refine GT_skip rfl rfl rfl rfl rfl (by decide) rfl rfl ?_
    refine GT_skip rfl rfl rfl rfl rfl (by decide) rfl rfl ?_
    refine GT_skip_ld rfl rfl rfl rfl rfl (by decide) rfl rfl rfl (GR_nil) ?_
    refine GT_skip rfl rfl rfl rfl rfl (by decide) rfl rfl ?_
    refine GT_st rfl rfl rfl rfl (V_pick_t rfl rfl rfl) ?_
    refine GT_nil ?_
    refine GE_cond_t rfl ?_
    refine GE_seq ?_
    refine GE_slots (L' := []) trivial ?_
    refine GE_plain (.ld 0 [] (.st 1 .nil)) rfl ?_
    refine GT_call0 rfl rfl rfl rfl rfl rfl rfl rfl rn_16 (fun w hw => C_Works) (GR_nil) ?_
    refine GT_st rfl rfl rfl rfl (V_assign rfl rfl) ?_
    refine GT_nil ?_
    refine GE_ret Tryd.func10 rfl (fun w hw => ⟨?_, hw.nil⟩)
    rfl
  · have hgr := greatB_no q1
    refine GT_st_g rfl rfl rfl rfl rfl rfl rfl (V_move rfl rfl) ?_
    refine GT_st_g rfl rfl rfl rfl rfl rfl rfl (V_move rfl rfl) ?_
    refine GT_call0_g rfl rfl rfl rfl rfl rfl rfl rfl rfl rfl rfl rn_21 (fun w hw => C_rCheckProgramme (h.sh hw) (hp.sh hw)) (GR_nil) ?_
    refine GT_st_g rfl rfl rfl rfl rfl rfl rfl (V_neq rfl rfl rfl) ?_
    refine GT_st rfl rfl rfl rfl (V_pick_f rfl rfl rfl) ?_
    refine GT_nil ?_
    first | refine GE_condNot rfl (fun q2 => ?_) (fun q2 => ?_) | refine GE_cond rfl (fun q2 => ?_) (fun q2 => ?_) | refine GE_condNotB rfl (fun q2 => ?_) (fun q2 => ?_) | refine GE_condB rfl (fun q2 => ?_) (fun q2 => ?_)
    · skip
      refine GE_seq ?_
      refine GE_slots (L' := []) trivial ?_
      refine GE_plain (.ld 0 [] (.st 1 .nil)) rfl ?_
      refine GT_call0 rfl rfl rfl rfl rfl rfl rfl rfl rn_16 (fun w hw => C_Works) (GR_nil) ?_
      refine GT_st rfl rfl rfl rfl (V_assign rfl rfl) ?_
      refine GT_nil ?_
      refine GE_ret Tryd.func10 rfl (fun w hw => ⟨?_, hw.nil⟩)
      rfl
    · have hP := gErr_zero.1 q2; have hmo := hP.most; have hlm := hP.tks.most
      refine GE_skip ?_
      refine GE_seq ?_
      refine GE_slots (L' := [(0, _), (1, _)]) ⟨rfl, rfl, trivial⟩ ?_
      refine GE_plain (.st 0 (.st 1 .nil)) rfl ?_
      refine GT_st rfl rfl rfl rfl (V_assign rfl rfl) ?_
      refine GT_st rfl rfl rfl rfl (V_assign rfl rfl) ?_
      refine GT_nil ?_
      refine GE_seq ?_
      refine GE_seq ?_
      refine GE_plain (.st 0 .nil) rfl ?_
      refine GT_st rfl rfl rfl rfl (V_assign rfl rfl) ?_
      refine GT_nil ?_
      refine GE_block ?_
      refine GE_to (GE_loop (ι := Nat × List Tk × OI × Items × OI) (fun z => l.length - z.1) (fun z => [(0, .slice A l.length c), (1, .slice A2 p.length c2), (5, .slice z.2.2.1.1 z.1 z.2.2.1.2.1), (6, .slice z.2.2.2.2.1 z.1 z.2.2.2.2.2.1), (7, I z.1)]) (fun z => z.2.2.1.2.2 ++ (z.2.2.2.1 ++ z.2.2.2.2.2.2)) (fun z => z.1 ≤ l.length ∧ MirT l z.2.1 z.1 ∧ (∀ w', SH w none' z.2.2.2.1 w' → ∀ t ∈ z.2.1, RdL w' 2 eSam t.A t.data) ∧ Own 2 27 eTk z.2.1 (.slice z.2.2.1.1 z.1 z.2.2.1.2.1) z.2.2.1.2.2 ∧ Own 2 27 eTk (l.take z.1).reverse (.slice z.2.2.2.2.1 z.1 z.2.2.2.2.2.1) z.2.2.2.2.2.2) ?_ (0, [], (none, 0, []), [], (none, 0, [])) ?_) ⟨rfl, rfl, rfl, rfl, rfl, trivial⟩ HS.nil
      · rintro ⟨i, m, ⟨A5, c5, I5⟩, J, ⟨A6, c6, I6⟩⟩ ⟨hi, hm, hJ, hO5, hO6⟩ ih; dsimp only at hi hm hJ hO5 hO6 ih ⊢; have hml := hm.len
        refine GE_seq ?_
        refine GE_seq ?_
        refine GE_plain (.st 0 (.st 1 (.st 2 (.st 3 .nil)))) rfl ?_
        refine GT_st rfl rfl rfl rfl (V_move rfl rfl) ?_
        refine GT_st rfl rfl rfl rfl (V_move rfl rfl) ?_
        refine GT_st rfl rfl rfl rfl (V_len rfl Tryd.underlying28 rfl) ?_
        refine GT_st rfl rfl rfl rfl (V_lss rfl rfl rfl) ?_
        refine GT_nil ?_
        first | refine GE_condNot rfl (fun q3 => ?_) (fun q3 => ?_) | refine GE_cond rfl (fun q3 => ?_) (fun q3 => ?_) | refine GE_condNotB rfl (fun q3 => ?_) (fun q3 => ?_) | refine GE_condB rfl (fun q3 => ?_) (fun q3 => ?_)
        · have hil : i < l.length := (by omega); have htk := h.2 _ (getD_mem hil); have hdt := tErr_zero.1 (hP.tks.each _ (getD_mem hil)); have hdat := htk.1
          refine GE_skip ?_
          refine GE_seq ?_
          refine GE_block ?_
          refine GE_seq ?_
          refine GE_slots (L' := [(0, _), (1, _), (5, _), (6, _), (7, _)]) ⟨rfl, rfl, rfl, rfl, rfl, trivial⟩ ?_
          refine GE_plain (.st 0 .nil) rfl ?_
          refine GT_st rfl rfl rfl rfl (V_assign rfl rfl) ?_
          refine GT_nil ?_
          refine GE_seq ?_
          refine GE_seq ?_
          refine GE_plain (.st 0 .nil) rfl ?_
          refine GT_st rfl rfl rfl rfl (V_assign rfl rfl) ?_
          refine GT_nil ?_
          refine GE_block ?_
          refine GE_to (GE_loop (ι := Nat × OI) (fun z => (l.getD i default).data.length - z.1) (fun z => [(0, .slice A l.length c), (1, .slice A2 p.length c2), (5, .slice A5 i c5), (6, .slice A6 i c6), (7, I i), (8, .slice z.2.1 z.1 z.2.2.1), (9, I z.1)]) (fun z => z.2.2.2 ++ (I5 ++ (J ++ I6))) (fun z => z.1 ≤ (l.getD i default).data.length ∧ Own 2 35 eSam (((l.getD i default).data.take z.1).map mirS) (.slice z.2.1 z.1 z.2.2.1) z.2.2.2) ?_ (0, none, 0, []) ?_) ⟨rfl, rfl, rfl, rfl, rfl, rfl, rfl, trivial⟩ HS.all
          · rintro ⟨k, A8, c8, I8⟩ ⟨hk, hO8⟩ ih2; dsimp only at hk hO8 ih2 ⊢
            refine GE_seq ?_
            refine GE_seq ?_
            refine GE_plain (.st 0 (.st 1 (.st 2 (.st 3 (.st 4 (.st 5 (.st 6 (.st 7 .nil)))))))) rfl ?_
            refine GT_st rfl rfl rfl rfl (V_move rfl rfl) ?_
            refine GT_st rfl rfl rfl rfl (V_move rfl rfl) ?_
            refine GT_st rfl rfl rfl rfl (V_move rfl rfl) ?_
            refine GT_st rfl rfl rfl rfl (V_index rfl rfl rfl Tryd.underlying28 sz_27 (k := i) rfl hil (h.1.isSome hil)) ?_
            first | refine GT_st rfl rfl rfl rfl (V_field rfl rfl fo_27_1) ?_ | refine GT_st rfl rfl rfl rfl (V_fieldA rfl rfl fo_27_1) ?_
            refine GT_st rfl rfl rfl rfl (V_load rfl rfl ag_22 (h.1.at1 noM hil rfl)) ?_
            refine GT_st rfl rfl rfl rfl (V_len rfl Tryd.underlying22 rfl) ?_
            refine GT_st rfl rfl rfl rfl (V_lss rfl rfl rfl) ?_
            refine GT_nil ?_
            first | refine GE_condNot rfl (fun q4 => ?_) (fun q4 => ?_) | refine GE_cond rfl (fun q4 => ?_) (fun q4 => ?_) | refine GE_condNotB rfl (fun q4 => ?_) (fun q4 => ?_) | refine GE_condB rfl (fun q4 => ?_) (fun q4 => ?_)
            · have hkd : k < (l.getD i default).data.length := (by omega); have hsb := Sam.ok_iff.1 (all_getD.1 hdt.2.2.2 k hkd)
              refine GE_skip ?_
              refine GE_seq ?_
              refine GE_block ?_
              refine GE_slots (L' := [(0, _), (1, _), (5, _), (6, _), (7, _), (8, _), (9, _)]) ⟨rfl, rfl, rfl, rfl, rfl, rfl, rfl, trivial⟩ ?_
              refine GE_drawn (.st 0 (.st 1 (.st 2 (.st 3 (.st 4 (.st 5 (.st 6 (.st 7 (.st 8 (.st 9 (.st 10 (.st 11 (.st 12 (.st 13 (.st 14 (.st 15 (.st 16 (.st 17 (.st 18 (.st 19 (.st 20 (.ld 21 [0] (.ld 22 [] (.ld 23 [] .nil)))))))))))))))))))))))) [21, 22, 23] (by decide +kernel) ?_
              refine GT_st rfl rfl rfl rfl (V_move rfl rfl) ?_
              refine GT_st rfl rfl rfl rfl (V_move rfl rfl) ?_
              refine GT_st rfl rfl rfl rfl (V_move rfl rfl) ?_
              refine GT_st rfl rfl rfl rfl (V_index rfl rfl rfl Tryd.underlying28 sz_27 (k := i) rfl hil (h.1.isSome hil)) ?_
              first | refine GT_st rfl rfl rfl rfl (V_field rfl rfl fo_27_1) ?_ | refine GT_st rfl rfl rfl rfl (V_fieldA rfl rfl fo_27_1) ?_
              refine GT_st rfl rfl rfl rfl (V_load rfl rfl ag_22 (h.1.at1 noM hil rfl)) ?_
              refine GT_st rfl rfl rfl rfl (V_move rfl rfl) ?_
              refine GT_st rfl rfl rfl rfl (V_index rfl rfl rfl Tryd.underlying22 sz_35 (k := k) rfl hkd (hdat.isSome hkd)) ?_
              first | refine GT_st rfl rfl rfl rfl (V_field rfl rfl fo_35_1) ?_ | refine GT_st rfl rfl rfl rfl (V_fieldA rfl rfl fo_35_1) ?_
              refine GT_st rfl rfl rfl rfl (V_load rfl rfl ag_2 (hdat.at1 noM hkd rfl)) ?_
              refine GT_st rfl rfl rfl rfl (V_neg rfl rfl ((wrap_i64 (by omega)).trans (show 0 - ((l.getD i default).data.getD k default).r = -((l.getD i default).data.getD k default).r by omega))) ?_
              refine GT_st rfl rfl rfl rfl (V_move rfl rfl) ?_
              refine GT_st rfl rfl rfl rfl (V_move rfl rfl) ?_
              refine GT_st rfl rfl rfl rfl (V_index rfl rfl rfl Tryd.underlying28 sz_27 (k := i) rfl hil (h.1.isSome hil)) ?_
              first | refine GT_st rfl rfl rfl rfl (V_field rfl rfl fo_27_1) ?_ | refine GT_st rfl rfl rfl rfl (V_fieldA rfl rfl fo_27_1) ?_
              refine GT_st rfl rfl rfl rfl (V_load rfl rfl ag_22 (h.1.at1 noM hil rfl)) ?_
              refine GT_st rfl rfl rfl rfl (V_move rfl rfl) ?_
              refine GT_st rfl rfl rfl rfl (V_index rfl rfl rfl Tryd.underlying22 sz_35 (k := k) rfl hkd (hdat.isSome hkd)) ?_
              first | refine GT_st rfl rfl rfl rfl (V_field rfl rfl fo_35_0) ?_ | refine GT_st rfl rfl rfl rfl (V_fieldA rfl rfl fo_35_0) ?_
              refine GT_st rfl rfl rfl rfl (V_load rfl rfl ag_2 (hdat.at0 noM hkd rfl)) ?_
              refine GT_st rfl rfl rfl rfl (V_build (vs := [_, _]) rfl rfl zc_35 pl_35 sa_35 rfl) ?_
              refine GT_buildSlice (z := [_, _]) rfl rfl rfl rfl rfl Tryd.underlying22 zc_35 sz_35 (by decide) rfl rfl (fun _ => GR_cons rfl rfl rfl rfl (V_move rfl rfl) (GR_nil)) (fun b72 => ?_)
              refine GT_append (enc := eSam) (m := [mirS ((l.getD i default).data.getD k default)]) rfl rfl rfl rfl rfl rfl rfl hO8 (fun w m => RdL.own' m eSam_len) Tryd.underlying22 zc_35 sz_35 ⟨rfl, by decide⟩ by_35 ⟨by simp only [List.length_map, List.length_take, List.length_singleton]; omega, by simp only [List.length_map, List.length_take, List.length_singleton]; omega⟩ eSam_len eSam_one (fun _ _ _ _ => GR_nil) (fun A8' c8' I8' hO8' => ?_)
              rw [show ((l.getD i default).data.take k).map mirS ++ [mirS ((l.getD i default).data.getD k default)] = ((l.getD i default).data.take (k + 1)).map mirS by rw [take_snoc hkd, List.map_append]; rfl, List.length_map, List.length_take, Nat.min_eq_left (by omega)] at hO8' ⊢
              refine GT_ldv rfl rfl rfl rfl rfl (V_assign rfl rfl) (GR_nil) ?_
              refine GT_nil ?_
              refine GE_inBlock ?_
              refine GE_slots (L' := [(0, _), (1, _), (5, _), (6, _), (7, _), (8, _), (9, _)]) ⟨rfl, rfl, rfl, rfl, rfl, rfl, rfl, trivial⟩ ?_
              refine GE_plain (.st 0 (.st 1 (.ld 2 [] .nil))) rfl ?_
              refine GT_st rfl rfl rfl rfl (V_move rfl rfl) ?_
              refine GT_st rfl rfl rfl rfl (V_add rfl rfl rfl (wrap_i64 (by omega))) ?_
              refine GT_ldv rfl rfl rfl rfl rfl (V_assign rfl rfl) (GR_nil) ?_
              refine GT_nil ?_
              exact GE_to (ih2 (k + 1, A8', c8', I8') ⟨by dsimp only; omega, hO8'⟩ (by dsimp only; omega)) ⟨rfl, rfl, rfl, rfl, rfl, rfl, rfl, trivial⟩ (HS.chunk (HS.chunk (HS.chunk HS.last)))
            · obtain rfl : k = (l.getD i default).data.length := (by omega); rw [List.take_length] at hO8; have hwn : Tk.wf ⟨(l.getD i default).name, A8, c8, (l.getD i default).data.map mirS⟩ := ⟨htk.2.1, (by obtain ⟨A3, c3, e3, l3⟩ := hO8.form; simp only [Value.slice.injEq] at e3; obtain ⟨_, _, e4⟩ := e3; subst e4; exact l3), fun s hs => by obtain ⟨x, hx, rfl⟩ := List.mem_map.1 hs; have hxo := Sam.ok_iff.1 (List.all_eq_true.1 hdt.2.2.2 x hx); unfold mirS Sam.wf I64; dsimp only; omega⟩
              refine GE_exit rfl ?_
              refine GE_seq ?_
              refine GE_slots (L' := [(0, _), (1, _), (5, _), (6, _), (7, _), (8, _)]) ⟨rfl, rfl, rfl, rfl, rfl, rfl, trivial⟩ ?_
              refine GE_plain (.st 0 (.st 1 (.st 2 (.st 3 (.st 4 (.st 5 (.st 6 (.st 7 (.ld 8 [] (.ld 9 [] (.ld 10 [] .nil))))))))))) rfl ?_
              refine GT_st rfl rfl rfl rfl (V_move rfl rfl) ?_
              refine GT_st rfl rfl rfl rfl (V_move rfl rfl) ?_
              refine GT_st rfl rfl rfl rfl (V_move rfl rfl) ?_
              refine GT_st rfl rfl rfl rfl (V_index rfl rfl rfl Tryd.underlying28 sz_27 (k := i) rfl hil (h.1.isSome hil)) ?_
              first | refine GT_st rfl rfl rfl rfl (V_field rfl rfl fo_27_0) ?_ | refine GT_st rfl rfl rfl rfl (V_fieldA rfl rfl fo_27_0) ?_
              refine GT_st rfl rfl rfl rfl (V_load rfl rfl ag_9 (h.1.at0 noM hil rfl)) ?_
              refine GT_st rfl rfl rfl rfl (V_move rfl rfl) ?_
              refine GT_st rfl rfl rfl rfl (V_build (vs := [_, _]) rfl rfl zc_27 pl_27 sa_27 rfl) ?_
              refine GT_buildSlice (z := [_, _]) rfl rfl rfl rfl rfl Tryd.underlying28 zc_27 sz_27 (by decide) rfl rfl (fun _ => GR_nil) (fun b82 => ?_)
              have hN : Own 2 27 eTk [⟨(l.getD i default).name, A8, c8, (l.getD i default).data.map mirS⟩] (.slice (some ⟨b82, 0, none⟩) 1 1) [(b82, blk [.string (l.getD i default).name, .slice A8 (l.getD i default).data.length c8] 27)] := Own.lit (by simp [eTk]) rfl (by decide)
              refine GT_append (enc := eTk) (m := [⟨(l.getD i default).name, A8, c8, (l.getD i default).data.map mirS⟩]) rfl rfl rfl rfl rfl rfl rfl hO5 (fun w m => hN.rdH eTk_len m) Tryd.underlying28 zc_27 sz_27 ⟨rfl, by decide⟩ by_27 ⟨by simp only [List.length_singleton]; omega, by simp only [List.length_singleton]; omega⟩ eTk_len eTk_one (fun _ _ _ _ => GR_nil) (fun A9 c9 I9 hO9 => ?_)
              rw [List.length_append, List.length_singleton, hml] at hO9 ⊢
              refine GT_ldv rfl rfl rfl rfl rfl (V_assign rfl rfl) (GR_nil) ?_
              refine GT_nil ?_
              refine GE_slots (L' := [(0, _), (1, _), (5, _), (6, _), (7, _)]) ⟨rfl, rfl, rfl, rfl, rfl, trivial⟩ ?_
              refine GE_plain (.st 0 (.st 1 (.st 2 (.st 3 (.ld 4 [] (.st 5 (.ld 6 [] (.ld 7 [] .nil)))))))) rfl ?_
              refine GT_st rfl rfl rfl rfl (V_move rfl rfl) ?_
              refine GT_st rfl rfl rfl rfl (V_move rfl rfl) ?_
              refine GT_st rfl rfl rfl rfl (V_index rfl rfl rfl Tryd.underlying28 sz_27 (k := i) rfl hil (h.1.isSome hil)) ?_
              refine GT_st rfl rfl rfl rfl (V_loadN (vs := [_, _]) rfl rfl ag_27 sz_27 rfl (h.1.ats noM hil)) ?_
              refine GT_buildSlice (z := [_, _]) rfl rfl rfl rfl rfl Tryd.underlying28 zc_27 sz_27 (by decide) rfl rfl (fun _ => GR_nil) (fun b88 => ?_)
              refine GT_st rfl rfl rfl rfl (V_move rfl rfl) ?_
              refine GT_append (enc := eTk) (l := [l.getD i default]) (I := [(b88, blk [.string (l.getD i default).name, .slice (l.getD i default).A (l.getD i default).data.length (l.getD i default).c] 27)]) (m := (l.take i).reverse) rfl rfl rfl rfl rfl rfl (lookS rfl (by rw [List.length_reverse, List.length_take]; omega)) (Own.lit (l := [l.getD i default]) rfl rfl (by decide)) (fun w m => hO6.rdH eTk_len m) Tryd.underlying28 zc_27 sz_27 ⟨rfl, by decide⟩ by_27 ⟨by simp only [List.length_reverse, List.length_take, List.length_singleton]; omega, by simp only [List.length_reverse, List.length_take, List.length_singleton]; omega⟩ eTk_len eTk_one (fun _ _ _ _ => GR_nil) (fun A10 c10 I10 hO10 => ?_)
              rw [show [l.getD i default] ++ (l.take i).reverse = (l.take (i + 1)).reverse by rw [take_snoc hil, List.reverse_append]; rfl, List.length_reverse, List.length_take, Nat.min_eq_left (by omega)] at hO10 ⊢
              refine GT_ldv rfl rfl rfl rfl rfl (V_assign rfl rfl) (GR_nil) ?_
              refine GT_nil ?_
              refine GE_inBlock ?_
              refine GE_slots (L' := [(0, _), (1, _), (5, _), (6, _), (7, _)]) ⟨rfl, rfl, rfl, rfl, rfl, trivial⟩ ?_
              refine GE_plain (.st 0 (.st 1 (.ld 2 [] .nil))) rfl ?_
              refine GT_st rfl rfl rfl rfl (V_move rfl rfl) ?_
              refine GT_st rfl rfl rfl rfl (V_add rfl rfl rfl (wrap_i64 (by omega))) ?_
              refine GT_ldv rfl rfl rfl rfl rfl (V_assign rfl rfl) (GR_nil) ?_
              refine GT_nil ?_
              exact GE_to (ih (i + 1, m ++ [⟨(l.getD i default).name, A8, c8, (l.getD i default).data.map mirS⟩], (A9, c9, I9), I8 ++ J, (A10, c10, I10)) ⟨by dsimp only; omega, hm.snoc rfl rfl hwn, (fun w' m' t ht => by rcases List.mem_append.1 ht with ht | ht; exact hJ w' (m'.chunk (I := J)) t ht; rw [List.mem_singleton.1 ht]; exact hO8.rdH eSam_len m'), hO9, hO10⟩ (by dsimp only; omega)) ⟨rfl, rfl, rfl, rfl, rfl, trivial⟩ (HS.eq (X := I9 ++ (I8 ++ (J ++ I10))) (HS.chunk (HS.chunk (HS.chunk HS.last))) (by simp))
          · exact ⟨Nat.zero_le _, Own.nil⟩
        · obtain rfl : i = l.length := (by omega); rw [List.take_length] at hO6; have hMir : Mir l m := ⟨hm.len, hm.name, hm.data⟩; have hMP := mir_ok hMir hP; have hRP := rev_ok hP
          refine GE_exit rfl ?_
          refine GE_seq ?_
          refine GE_slots (L' := [(0, _), (1, _), (5, _), (6, _)]) ⟨rfl, rfl, rfl, rfl, trivial⟩ ?_
          refine GE_plain (.ld 0 [] (.st 1 (.ld 2 [] (.st 3 .nil)))) rfl ?_
          refine GT_buildSlice (z := []) rfl rfl rfl rfl rfl Tryd.underlying31 zc_30 sz_30 (by decide) rfl rfl (fun _ => GR_nil) (fun b91 => ?_)
          refine GT_st rfl rfl rfl rfl (V_move rfl rfl) ?_
          refine GT_append (enc := ePrt) (l := []) (I := [(b91, blk [] 30)]) (m := p) rfl rfl rfl rfl rfl rfl rfl (Own.lit (l := []) rfl rfl (by decide)) (fun w m => hp.sh m) Tryd.underlying31 zc_30 sz_30 ⟨rfl, by decide⟩ by_30 ⟨by simp only [List.length_nil]; omega, by simp only [List.length_nil]; omega⟩ ePrt_len ePrt_one (fun _ _ _ _ => GR_nil) (fun A4 c4 I4 hO4 => ?_)
          rw [List.nil_append] at hO4 ⊢
          refine GT_st rfl rfl rfl rfl (V_assign rfl rfl) ?_
          refine GT_nil ?_
          refine GE_seq ?_
          refine GE_seq ?_
          refine GE_plain (.st 0 .nil) rfl ?_
          refine GT_st rfl rfl rfl rfl (V_assign rfl rfl) ?_
          refine GT_nil ?_
          refine GE_block ?_
          refine GE_to (GE_loop (ι := Nat × Items) (fun z => p.length - z.1) (fun z => [(0, .slice A l.length c), (1, .slice A2 p.length c2), (5, .slice A5 l.length c5), (6, .slice A6 l.length c6), (10, .slice A4 p.length c4), (11, I z.1)]) (fun z => z.2 ++ (I5 ++ (J ++ I6))) (fun z => z.1 ≤ p.length ∧ Own 7 30 ePrt (pM (revd l.length) p z.1) (.slice A4 p.length c4) z.2) ?_ (0, I4) ?_) ⟨rfl, rfl, rfl, rfl, rfl, rfl, trivial⟩ (HS.chunk (HS.chunk (HS.chunk HS.last)))
          · rintro ⟨i, I11⟩ ⟨hi, hO11⟩ ih2; dsimp only at hi hO11 ih2 ⊢
            refine GE_seq ?_
            refine GE_seq ?_
            refine GE_plain (.st 0 (.st 1 (.st 2 (.st 3 .nil)))) rfl ?_
            refine GT_st rfl rfl rfl rfl (V_move rfl rfl) ?_
            refine GT_st rfl rfl rfl rfl (V_move rfl rfl) ?_
            refine GT_st rfl rfl rfl rfl (V_len rfl Tryd.underlying31 rfl) ?_
            refine GT_st rfl rfl rfl rfl (V_lss rfl rfl rfl) ?_
            refine GT_nil ?_
            first | refine GE_condNot rfl (fun q5 => ?_) (fun q5 => ?_) | refine GE_cond rfl (fun q5 => ?_) (fun q5 => ?_) | refine GE_condNotB rfl (fun q5 => ?_) (fun q5 => ?_) | refine GE_condB rfl (fun q5 => ?_) (fun q5 => ?_)
            · have hip : i < p.length := (by omega); have hql := pM_len (p := p) (f := revd l.length) (i := i) (by omega); have hqg := pM_get (p := p) (f := revd l.length) hip; have hE := hP.each i hip; have ht0 := hE.tk0; have ht1 := hE.tk1
              refine GE_skip ?_
              refine GE_seq ?_
              refine GE_block ?_
              refine GE_slots (L' := [(0, _), (1, _), (5, _), (6, _), (10, _), (11, _)]) ⟨rfl, rfl, rfl, rfl, rfl, rfl, trivial⟩ ?_
              refine GE_plain (.st 0 (.st 1 (.st 2 (.st 3 (.st 4 (.st 5 (.st 6 (.st 7 (.st 8 (.st 9 (.st 10 (.st 11 (.st 12 (.ld 13 [] .nil)))))))))))))) rfl ?_
              refine GT_st rfl rfl rfl rfl (V_move rfl rfl) ?_
              refine GT_st rfl rfl rfl rfl (V_move rfl rfl) ?_
              refine GT_st rfl rfl rfl rfl (V_move rfl rfl) ?_
              refine GT_st rfl rfl rfl rfl (V_len rfl Tryd.underlying28 rfl) ?_
              refine GT_st rfl rfl rfl rfl (V_sub rfl rfl rfl (wrap_i64 (by omega))) ?_
              refine GT_st rfl rfl rfl rfl (V_move rfl rfl) ?_
              refine GT_st rfl rfl rfl rfl (V_move rfl rfl) ?_
              refine GT_st rfl rfl rfl rfl (V_index rfl rfl rfl Tryd.underlying31 sz_30 (k := i) rfl hip (hO11.isSome (k := i) (by omega))) ?_
              first | refine GT_st rfl rfl rfl rfl (V_field rfl rfl fo_30_0) ?_ | refine GT_st rfl rfl rfl rfl (V_fieldA rfl rfl fo_30_0) ?_
              refine GT_st rfl rfl rfl rfl (V_load rfl rfl ag_3 (CellAt.own (j := 0) hO11 ePrt_len (by omega) (by rw [hqg]; exact (show _ = some (I (pt p i).tk) from rfl)))) ?_
              refine GT_st rfl rfl rfl rfl (V_sub rfl rfl rfl (wrap_i64 (by omega))) ?_
              refine GT_st rfl rfl rfl rfl (V_index rfl rfl rfl Tryd.underlying31 sz_30 (k := i) rfl hip (hO11.isSome (k := i) (by omega))) ?_
              first | refine GT_st rfl rfl rfl rfl (V_field rfl rfl fo_30_0) ?_ | refine GT_st rfl rfl rfl rfl (V_fieldA rfl rfl fo_30_0) ?_
              refine GT_storeF (enc := ePrt) (q := i) (j := 0) (xx := revd l.length (pt p i)) rfl rfl rfl rfl rfl rfl rfl sz_3 hO11 ePrt_len rfl (by omega) (by decide) (by rw [hqg]; rfl) (fun _ _ => GR_nil) (fun I12 hO12 => ?_)
              refine GT_nil ?_
              refine GE_inBlock ?_
              refine GE_slots (L' := [(0, _), (1, _), (5, _), (6, _), (10, _), (11, _)]) ⟨rfl, rfl, rfl, rfl, rfl, rfl, trivial⟩ ?_
              rw [pM_set hip] at hO12
              refine GE_plain (.st 0 (.st 1 (.ld 2 [] .nil))) rfl ?_
              refine GT_st rfl rfl rfl rfl (V_move rfl rfl) ?_
              refine GT_st rfl rfl rfl rfl (V_add rfl rfl rfl (wrap_i64 (by omega))) ?_
              refine GT_ldv rfl rfl rfl rfl rfl (V_assign rfl rfl) (GR_nil) ?_
              refine GT_nil ?_
              exact GE_to (ih2 (i + 1, I12) ⟨by dsimp only; omega, hO12⟩ (by dsimp only; omega)) ⟨rfl, rfl, rfl, rfl, rfl, rfl, trivial⟩ (HS.chunk (HS.chunk (HS.chunk HS.last)))
            · obtain rfl : i = p.length := (by omega); rw [pM_all] at hO11; have lV : p.length = (pV l.length p).length := (by unfold pV; rw [List.length_map]); have lR : l.length = l.reverse.length := (by rw [List.length_reverse])
              refine GE_exit rfl ?_
              refine GE_seq ?_
              refine GE_slots (L' := [(0, _), (1, _), (5, _), (6, _), (10, _)]) ⟨rfl, rfl, rfl, rfl, rfl, trivial⟩ ?_
              refine GE_plain (.st 0 (.st 1 (.ld 2 [] (.st 3 (.st 4 (.st 5 (.st 6 (.st 7 .nil)))))))) rfl ?_
              refine GT_st rfl rfl rfl rfl (V_move rfl rfl) ?_
              refine GT_st rfl rfl rfl rfl (V_move rfl rfl) ?_
              refine GT_call rfl rfl rfl rfl rfl rfl rfl rfl rn_17 (fun w hw => C_Render (h.sh hw) (hp.sh hw)) (fun _ _ => GR_nil) (fun ra hra => ?_)
              refine GT_st rfl rfl rfl rfl (V_move rfl rfl) ?_
              refine GT_st rfl rfl rfl rfl (V_extract rfl rfl rfl) ?_
              refine GT_st rfl rfl rfl rfl (V_extract rfl rfl rfl) ?_
              refine GT_st rfl rfl rfl rfl (V_assign rfl rfl) ?_
              refine GT_st rfl rfl rfl rfl (V_assign rfl rfl) ?_
              refine GT_nil ?_
              refine GE_seq ?_
              refine GE_slots (L' := [(0, _), (1, _), (5, _), (6, _), (10, _), (12, _), (13, _)]) ⟨rfl, rfl, rfl, rfl, rfl, rfl, rfl, trivial⟩ ?_
              refine GE_plain (.st 0 (.st 1 (.ld 2 [] (.st 3 (.st 4 (.st 5 (.st 6 (.st 7 .nil)))))))) rfl ?_
              refine GT_st rfl rfl rfl rfl (V_move rfl rfl) ?_
              refine GT_st rfl rfl rfl rfl (V_move rfl rfl) ?_
              refine GT_call rfl rfl rfl rfl rfl rfl rfl rfl rn_17 (fun w hw => C_RenderM (l := m) ⟨hO5.rdH eTk_len hw, fun t ht => ⟨hJ _ (hw.chunk (I := J)) t ht, hm.wf t ht⟩⟩ hm.len.symm (hp.sh hw) rfl) (fun _ _ => GR_nil) (fun rb hrb => ?_)
              refine GT_st rfl rfl rfl rfl (V_move rfl rfl) ?_
              refine GT_st rfl rfl rfl rfl (V_extract rfl rfl rfl) ?_
              refine GT_st rfl rfl rfl rfl (V_extract rfl rfl rfl) ?_
              refine GT_st rfl rfl rfl rfl (V_assign rfl rfl) ?_
              refine GT_st rfl rfl rfl rfl (V_assign rfl rfl) ?_
              refine GT_nil ?_
              refine GE_seq ?_
              refine GE_slots (L' := [(0, _), (1, _), (5, _), (6, _), (10, _), (12, _), (13, _), (14, _), (15, _)]) ⟨rfl, rfl, rfl, rfl, rfl, rfl, rfl, rfl, rfl, trivial⟩ ?_
              refine GE_plain (.st 0 (.st 1 (.ld 2 [] (.st 3 (.st 4 (.st 5 (.st 6 (.st 7 .nil)))))))) rfl ?_
              refine GT_st rfl rfl rfl rfl (V_move rfl rfl) ?_
              refine GT_st rfl rfl rfl rfl (V_move rfl rfl) ?_
              refine GT_call rfl rfl rfl rfl rfl rfl rfl rfl rn_17 (fun w hw => C_RenderM (l := l.reverse) (p := pV l.length p) ⟨hO6.rdH eTk_len hw, fun t ht => ⟨((h.2 t (by simpa using ht)).1.sh hw), (h.2 t (by simpa using ht)).2⟩⟩ lR (hO11.rdH ePrt_len hw) lV) (fun _ _ => GR_nil) (fun rc hrc => ?_)
              refine GT_st rfl rfl rfl rfl (V_move rfl rfl) ?_
              refine GT_st rfl rfl rfl rfl (V_extract rfl rfl rfl) ?_
              refine GT_st rfl rfl rfl rfl (V_extract rfl rfl rfl) ?_
              refine GT_st rfl rfl rfl rfl (V_assign rfl rfl) ?_
              refine GT_st rfl rfl rfl rfl (V_assign rfl rfl) ?_
              refine GT_nil ?_
              refine GE_seq ?_
              refine GE_slots (L' := [(0, _), (1, _), (5, _), (6, _), (10, _), (12, _), (13, _), (14, _), (15, _), (16, _), (17, _)]) ⟨rfl, rfl, rfl, rfl, rfl, rfl, rfl, rfl, rfl, rfl, rfl, trivial⟩ ?_
              refine GE_plain (.st 0 (.st 1 (.ld 2 [] (.st 3 (.st 4 (.st 5 (.st 6 (.st 7 .nil)))))))) rfl ?_
              refine GT_st rfl rfl rfl rfl (V_move rfl rfl) ?_
              refine GT_st rfl rfl rfl rfl (V_move rfl rfl) ?_
              refine GT_call0 rfl rfl rfl rfl rfl rfl rfl rfl rn_34 (fun w hw => C_HeadOk (h.sh hw) (hp.sh hw) rfl hP) (GR_nil) ?_
              refine GT_st rfl rfl rfl rfl (V_move rfl rfl) ?_
              refine GT_st rfl rfl rfl rfl (V_extract rfl rfl rfl) ?_
              refine GT_st rfl rfl rfl rfl (V_extract rfl rfl rfl) ?_
              refine GT_st rfl rfl rfl rfl (V_assign rfl rfl) ?_
              refine GT_st rfl rfl rfl rfl (V_assign rfl rfl) ?_
              refine GT_nil ?_
              refine GE_seq ?_
              refine GE_slots (L' := [(1, _), (5, _), (6, _), (10, _), (12, _), (13, _), (14, _), (15, _), (16, _), (17, _), (18, _), (19, _)]) ⟨rfl, rfl, rfl, rfl, rfl, rfl, rfl, rfl, rfl, rfl, rfl, rfl, trivial⟩ ?_
              refine GE_plain (.st 0 (.st 1 (.ld 2 [] (.st 3 (.st 4 (.st 5 (.st 6 (.st 7 .nil)))))))) rfl ?_
              refine GT_st rfl rfl rfl rfl (V_move rfl rfl) ?_
              refine GT_st rfl rfl rfl rfl (V_move rfl rfl) ?_
              refine GT_call0 rfl rfl rfl rfl rfl rfl rfl rfl rn_34 (fun w hw => C_HeadM (l := m) ⟨hO5.rdH eTk_len hw, fun t ht => ⟨hJ _ (hw.chunk (I := J)) t ht, hm.wf t ht⟩⟩ hm.len.symm (hp.sh hw) rfl hMP) (GR_nil) ?_
              refine GT_st rfl rfl rfl rfl (V_move rfl rfl) ?_
              refine GT_st rfl rfl rfl rfl (V_extract rfl rfl rfl) ?_
              refine GT_st rfl rfl rfl rfl (V_extract rfl rfl rfl) ?_
              refine GT_st rfl rfl rfl rfl (V_assign rfl rfl) ?_
              refine GT_st rfl rfl rfl rfl (V_assign rfl rfl) ?_
              refine GT_nil ?_
              refine GE_seq ?_
              refine GE_slots (L' := [(6, _), (10, _), (12, _), (13, _), (14, _), (15, _), (16, _), (17, _), (18, _), (19, _), (20, _), (21, _)]) ⟨rfl, rfl, rfl, rfl, rfl, rfl, rfl, rfl, rfl, rfl, rfl, rfl, trivial⟩ ?_
              refine GE_plain (.st 0 (.st 1 (.ld 2 [] (.st 3 (.st 4 (.st 5 (.st 6 (.st 7 .nil)))))))) rfl ?_
              refine GT_st rfl rfl rfl rfl (V_move rfl rfl) ?_
              refine GT_st rfl rfl rfl rfl (V_move rfl rfl) ?_
              refine GT_call0 rfl rfl rfl rfl rfl rfl rfl rfl rn_34 (fun w hw => C_HeadM (l := l.reverse) (p := pV l.length p) ⟨hO6.rdH eTk_len hw, fun t ht => ⟨((h.2 t (by simpa using ht)).1.sh hw), (h.2 t (by simpa using ht)).2⟩⟩ lR (hO11.rdH ePrt_len hw) lV hRP) (GR_nil) ?_
              refine GT_st rfl rfl rfl rfl (V_move rfl rfl) ?_
              refine GT_st rfl rfl rfl rfl (V_extract rfl rfl rfl) ?_
              refine GT_st rfl rfl rfl rfl (V_extract rfl rfl rfl) ?_
              refine GT_st rfl rfl rfl rfl (V_assign rfl rfl) ?_
              refine GT_st rfl rfl rfl rfl (V_assign rfl rfl) ?_
              refine GT_nil ?_
              refine GE_seq ?_
              refine GE_seq ?_
              refine GE_slots (L' := [(12, _), (13, _), (14, _), (15, _), (16, _), (17, _), (18, _), (19, _), (20, _), (21, _), (22, _), (23, _)]) ⟨rfl, rfl, rfl, rfl, rfl, rfl, rfl, rfl, rfl, rfl, rfl, rfl, trivial⟩ ?_
              have e1 : rErr m p = rErr l p := mir_rErr hMir hP; have e2 : rErr l.reverse (pV l.length p) = rErr l p := rev_rErr hP; have e3 : hd m p = hd l p := mir_hd hMir hP; have e4 : hd l.reverse (pV l.length p) = hd l p := rev_hd hP; have e5 : rendL m p = (rendL l p).map mirS := (by unfold rendL; rw [e1, mir_rend hMir hP]; split; rfl; rfl); have e6 : rendL l.reverse (pV l.length p) = rendL l p := (by unfold rendL; rw [e2, rev_rend hP]); rw [e5, List.length_map] at hrb; rw [e6] at hrc; rw [e1, e2, e3, e4, e5, e6, List.length_map]; have hrl := rendL_len hP; have hfi := hP.fin
              refine GE_plain (.st 0 (.st 1 (.st 2 (.st 3 (.st 4 (.st 5 (.st 6 (.st 7 (.st 8 (.st 9 (.st 10 (.st 11 (.st 12 (.st 13 (.st 14 (.st 15 (.st 16 (.st 17 (.st 18 (.st 19 (.st 20 (.st 21 (.st 22 (.st 23 (.st 24 (.st 25 (.st 26 (.st 27 (.st 28 (.st 29 (.st 30 (.st 31 (.st 32 (.ld 33 [] (.st 34 (.st 35 (.st 36 (.st 37 (.st 38 (.st 39 (.st 40 (.st 41 (.st 42 .nil))))))))))))))))))))))))))))))))))))))))))) rfl ?_
              refine GT_st rfl rfl rfl rfl (V_move rfl rfl) ?_
              refine GT_st rfl rfl rfl rfl (V_move rfl rfl) ?_
              refine GT_st rfl rfl rfl rfl (V_isF (V_neq rfl rfl rfl) (fun q => q rfl)) ?_
              refine GT_st rfl rfl rfl rfl (V_move rfl rfl) ?_
              refine GT_st_g rfl rfl rfl rfl rfl rfl rfl (V_move rfl rfl) ?_
              refine GT_st_g rfl rfl rfl rfl rfl rfl rfl (V_move rfl rfl) ?_
              refine GT_st_g rfl rfl rfl rfl rfl rfl rfl (V_isF (V_neq rfl rfl rfl) (fun q => q rfl)) ?_
              refine GT_st rfl rfl rfl rfl (V_pick_f rfl rfl rfl) ?_
              refine GT_st rfl rfl rfl rfl (V_move rfl rfl) ?_
              refine GT_st_g rfl rfl rfl rfl rfl rfl rfl (V_move rfl rfl) ?_
              refine GT_st_g rfl rfl rfl rfl rfl rfl rfl (V_isF (V_neq rfl rfl rfl) (fun q => q rfl)) ?_
              refine GT_st rfl rfl rfl rfl (V_pick_f rfl rfl rfl) ?_
              refine GT_st rfl rfl rfl rfl (V_move rfl rfl) ?_
              refine GT_st_g rfl rfl rfl rfl rfl rfl rfl (V_move rfl rfl) ?_
              refine GT_st_g rfl rfl rfl rfl rfl rfl rfl (V_isF (V_neq rfl rfl rfl) (fun q => q rfl)) ?_
              refine GT_st rfl rfl rfl rfl (V_pick_f rfl rfl rfl) ?_
              refine GT_st rfl rfl rfl rfl (V_move rfl rfl) ?_
              refine GT_st_g rfl rfl rfl rfl rfl rfl rfl (V_move rfl rfl) ?_
              refine GT_st_g rfl rfl rfl rfl rfl rfl rfl (V_isF (V_neq rfl rfl rfl) (fun q => q rfl)) ?_
              refine GT_st rfl rfl rfl rfl (V_pick_f rfl rfl rfl) ?_
              refine GT_st rfl rfl rfl rfl (V_move rfl rfl) ?_
              refine GT_st_g rfl rfl rfl rfl rfl rfl rfl (V_move rfl rfl) ?_
              refine GT_st_g rfl rfl rfl rfl rfl rfl rfl (V_move rfl rfl) ?_
              refine GT_st_g rfl rfl rfl rfl rfl rfl rfl (V_isF (V_neq rfl rfl rfl) (fun q => q rfl)) ?_
              refine GT_st rfl rfl rfl rfl (V_pick_f rfl rfl rfl) ?_
              refine GT_st rfl rfl rfl rfl (V_move rfl rfl) ?_
              refine GT_st_g rfl rfl rfl rfl rfl rfl rfl (V_move rfl rfl) ?_
              refine GT_st_g rfl rfl rfl rfl rfl rfl rfl (V_move rfl rfl) ?_
              refine GT_st_g rfl rfl rfl rfl rfl rfl rfl (V_isF (V_neq rfl rfl rfl) (fun q => q rfl)) ?_
              refine GT_st rfl rfl rfl rfl (V_pick_f rfl rfl rfl) ?_
              refine GT_st rfl rfl rfl rfl (V_move rfl rfl) ?_
              refine GT_st_g rfl rfl rfl rfl rfl rfl rfl (V_move rfl rfl) ?_
              refine GT_st_g rfl rfl rfl rfl rfl rfl rfl (V_move rfl rfl) ?_
              refine GT_call0_g rfl rfl rfl rfl rfl rfl rfl rfl rfl rfl rfl rn_22 (fun w hw => C_SameT rfl (by omega) (hra.rdH eSam_len hw) (hrc.rdH eSam_len hw) rfl rfl) (GR_nil) ?_
              first | refine GT_st_g rfl rfl rfl rfl rfl rfl rfl (V_not rfl rfl) ?_ | refine GT_st_g rfl rfl rfl rfl rfl rfl rfl (V_notB rfl rfl) ?_
              refine GT_st rfl rfl rfl rfl (V_pick_f rfl rfl rfl) ?_
              refine GT_st rfl rfl rfl rfl (V_move rfl rfl) ?_
              refine GT_st_g rfl rfl rfl rfl rfl rfl rfl (V_move rfl rfl) ?_
              refine GT_st_g rfl rfl rfl rfl rfl rfl rfl (V_len rfl Tryd.underlying22 rfl) ?_
              refine GT_st_g rfl rfl rfl rfl rfl rfl rfl (V_move rfl rfl) ?_
              refine GT_st_g rfl rfl rfl rfl rfl rfl rfl (V_len rfl Tryd.underlying22 rfl) ?_
              refine GT_st_g rfl rfl rfl rfl rfl rfl rfl (V_isF (V_neq rfl rfl rfl) (fun q => q rfl)) ?_
              refine GT_st rfl rfl rfl rfl (V_pick_f rfl rfl rfl) ?_
              refine GT_nil ?_
              refine GE_cond_f rfl ?_
              refine GE_skip ?_
              refine GE_seq ?_
              refine GE_seq ?_
              refine GE_slots (L' := [(12, _), (14, _)]) ⟨rfl, rfl, trivial⟩ ?_
              refine GE_plain (.st 0 .nil) rfl ?_
              refine GT_st rfl rfl rfl rfl (V_assign rfl rfl) ?_
              refine GT_nil ?_
              refine GE_block ?_
              refine GE_to (GE_loop (ι := Nat) (fun k => (rendL l p).length - k) (fun k => [(12, .slice ra.1 (rendL l p).length ra.2.1), (14, .slice rb.1 (rendL l p).length rb.2.1), (24, I k)]) (fun k => ra.2.2 ++ rb.2.2) (fun k => k ≤ (rendL l p).length) ?_ 0 ?_) ⟨rfl, rfl, rfl, trivial⟩ (HS.chunk HS.last)
              · intro k hk ih2
                refine GE_seq ?_
                refine GE_seq ?_
                refine GE_plain (.st 0 (.st 1 (.st 2 (.st 3 .nil)))) rfl ?_
                refine GT_st rfl rfl rfl rfl (V_move rfl rfl) ?_
                refine GT_st rfl rfl rfl rfl (V_move rfl rfl) ?_
                refine GT_st rfl rfl rfl rfl (V_len rfl Tryd.underlying22 rfl) ?_
                refine GT_st rfl rfl rfl rfl (V_lss rfl rfl rfl) ?_
                refine GT_nil ?_
                first | refine GE_condNot rfl (fun q6 => ?_) (fun q6 => ?_) | refine GE_cond rfl (fun q6 => ?_) (fun q6 => ?_) | refine GE_condNotB rfl (fun q6 => ?_) (fun q6 => ?_) | refine GE_condB rfl (fun q6 => ?_) (fun q6 => ?_)
                · have hkl : k < (rendL l p).length := (by omega); have hkm : k < ((rendL l p).map mirS).length := (by rw [List.length_map]; exact hkl); have hgm : ((rendL l p).map mirS).getD k default = mirS ((rendL l p).getD k default) := (by simp [List.getD, hkl]); have hsb : -32767 ≤ ((rendL l p).getD k default).r ∧ ((rendL l p).getD k default).r ≤ 32767 := rendL_bd hkl
                  refine GE_skip ?_
                  refine GE_seq ?_
                  refine GE_block ?_
                  refine GE_seq ?_
                  refine GE_slots (L' := [(12, _), (14, _), (24, _)]) ⟨rfl, rfl, rfl, trivial⟩ ?_
                  refine GE_drawn (.st 0 (.st 1 (.st 2 (.st 3 (.st 4 (.st 5 (.st 6 (.st 7 (.st 8 (.st 9 (.st 10 (.st 11 (.st 12 (.st 13 (.st 14 (.st 15 (.st 16 .nil))))))))))))))))) [] (by decide +kernel) ?_
                  refine GT_st rfl rfl rfl rfl (V_move rfl rfl) ?_
                  refine GT_st rfl rfl rfl rfl (V_move rfl rfl) ?_
                  refine GT_st rfl rfl rfl rfl (V_index rfl rfl rfl Tryd.underlying22 sz_35 (k := k) rfl hkl (hrb.isSome hkm)) ?_
                  refine GT_st rfl rfl rfl rfl (V_loadN (vs := [_, _]) rfl rfl ag_35 sz_35 rfl (CellsAt.ownE hrb eSam_len hkm (by rw [hgm]; rfl))) ?_
                  refine GT_st rfl rfl rfl rfl (V_move rfl rfl) ?_
                  refine GT_st rfl rfl rfl rfl (V_move rfl rfl) ?_
                  refine GT_st rfl rfl rfl rfl (V_index rfl rfl rfl Tryd.underlying22 sz_35 (k := k) rfl hkl (hra.isSome hkl)) ?_
                  first | refine GT_st rfl rfl rfl rfl (V_field rfl rfl fo_35_1) ?_ | refine GT_st rfl rfl rfl rfl (V_fieldA rfl rfl fo_35_1) ?_
                  refine GT_st rfl rfl rfl rfl (V_load rfl rfl ag_2 (CellAt.own (j := 1) hra eSam_len hkl rfl)) ?_
                  refine GT_st rfl rfl rfl rfl (V_neg rfl rfl ((wrap_i64 (by omega)).trans (show 0 - ((rendL l p).getD k default).r = -((rendL l p).getD k default).r by omega))) ?_
                  refine GT_st rfl rfl rfl rfl (V_move rfl rfl) ?_
                  refine GT_st rfl rfl rfl rfl (V_move rfl rfl) ?_
                  refine GT_st rfl rfl rfl rfl (V_index rfl rfl rfl Tryd.underlying22 sz_35 (k := k) rfl hkl (hra.isSome hkl)) ?_
                  first | refine GT_st rfl rfl rfl rfl (V_field rfl rfl fo_35_0) ?_ | refine GT_st rfl rfl rfl rfl (V_fieldA rfl rfl fo_35_0) ?_
                  refine GT_st rfl rfl rfl rfl (V_load rfl rfl ag_2 (CellAt.own0 hra eSam_len hkl rfl)) ?_
                  refine GT_st rfl rfl rfl rfl (V_build (vs := [_, _]) rfl rfl zc_35 pl_35 sa_35 rfl) ?_
                  refine GT_st rfl rfl rfl rfl (V_isF (V_neqInts (zs := [_, _]) (zs' := [_, _]) rfl rfl rfl is_35 rfl rfl) (fun q => q rfl)) ?_
                  refine GT_nil ?_
                  refine GE_cond_f rfl ?_
                  refine GE_skip ?_
                  refine GE_inBlock ?_
                  refine GE_slots (L' := [(12, _), (14, _), (24, _)]) ⟨rfl, rfl, rfl, trivial⟩ ?_
                  refine GE_plain (.st 0 (.st 1 (.ld 2 [] .nil))) rfl ?_
                  refine GT_st rfl rfl rfl rfl (V_move rfl rfl) ?_
                  refine GT_st rfl rfl rfl rfl (V_add rfl rfl rfl (wrap_i64 (by omega))) ?_
                  refine GT_ldv rfl rfl rfl rfl rfl (V_assign rfl rfl) (GR_nil) ?_
                  refine GT_nil ?_
                  exact GE_to (ih2 (k + 1) (by omega) (by omega)) ⟨rfl, rfl, rfl, trivial⟩ HS.all
                · skip
                  refine GE_exit rfl ?_
                  refine GE_seq ?_
                  refine GE_slots (L' := []) trivial ?_
                  refine GE_plain (.ld 0 [] (.st 1 .nil)) rfl ?_
                  refine GT_call0 rfl rfl rfl rfl rfl rfl rfl rfl rn_16 (fun w hw => C_Works) (GR_nil) ?_
                  refine GT_st rfl rfl rfl rfl (V_assign rfl rfl) ?_
                  refine GT_nil ?_
                  refine GE_ret Tryd.func10 rfl (fun w hw => ⟨?_, hw.nil⟩)
                  rfl
              · exact Nat.zero_le _
          · exact ⟨Nat.zero_le _, by rw [pM_zero]; exact hO4⟩
      · exact ⟨Nat.zero_le _, ⟨rfl, (fun j hj => absurd hj (Nat.not_lt_zero _)), (fun j hj => absurd hj (Nat.not_lt_zero _)), (fun t ht => by cases ht)⟩, (fun _ _ t ht => by cases ht), Own.nil, Own.nil⟩
end
end Go.Proofs.YtnklkobhjdkblaaDoor

