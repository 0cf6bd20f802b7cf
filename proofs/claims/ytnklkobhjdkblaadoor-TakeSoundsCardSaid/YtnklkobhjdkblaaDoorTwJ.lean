/- What TbJ leans on, in one text. -/
import Derived.Test.YtnklkobhjdkblaaDoorTa7
import Derived.Test.YtnklkobhjdkblaaDoorTaC
import Derived.Test.YtnklkobhjdkblaaDoorTaD
import Derived.Test.YtnklkobhjdkblaaDoorSxJ
import Derived.Test.YtnklkobhjdkblaaDoorTaE
import Derived.Test.YtnklkobhjdkblaaDoorTaF
import Derived.Test.YtnklkobhjdkblaaDoorSxK
import Derived.Test.YtnklkobhjdkblaaDoorTaH
import Derived.Test.YtnklkobhjdkblaaDoorTaG
import Derived.Test.YtnklkobhjdkblaaDoorTaI
import Derived.Test.YtnklkobhjdkblaaDoorTaU
import Derived.Test.YtnklkobhjdkblaaDoorTaJ
namespace Go.Proofs.YtnklkobhjdkblaaDoor
open Go.Sx Go.Proofs Go.RowKit

theorem nm_all {s : ByteArray} : s.data.toList.all nmB = true ↔ ∀ i, i < s.size → nmB (s.data.toList.getD i 0) = true := by
  have hl : s.data.toList.length = s.size := by rw [Array.length_toList]; rfl
  rw [List.all_eq_true]
  constructor
  · intro h i hi; rw [List.getD, List.getElem?_eq_getElem (by omega)]; exact h _ (List.getElem_mem _)
  · intro h x hx
    obtain ⟨i, hi, rfl⟩ := List.getElem_of_mem hx
    have := h i (by omega)
    rw [List.getD, List.getElem?_eq_getElem hi] at this
    exact this
theorem nmB_iff {b : UInt8} : nmB b = true ↔ (97 ≤ (b.toNat : Int) ∧ (b.toNat : Int) ≤ 122) ∨ (48 ≤ (b.toNat : Int) ∧ (b.toNat : Int) ≤ 57) := by
  unfold nmB; simp only [Bool.or_eq_true, Bool.and_eq_true, decide_eq_true_iff]; omega
theorem isNm_iff {s : ByteArray} : isNm s = true ↔ (1 ≤ s.size ∧ s.size ≤ 20) ∧ ∀ i, i < s.size → nmB (s.data.toList.getD i 0) = true := by
  unfold isNm; simp only [Bool.and_eq_true, decide_eq_true_iff]; rw [nm_all]
theorem lErr_two {l : List Tk} (h1 : 1 ≤ l.length ∧ l.length ≤ 16) (h6 : ∀ i, i < l.length → (l.getD i default).data.length ≤ 4096) {k : Nat} (hk : k < l.length) (h : tErr (l.getD k default) ≠ 0) : lErr l = 2 := by
  have n6 : ¬ l.any (fun t => decide (tErr t = 6)) = true := by
    rw [List.any_eq_true]; rintro ⟨t, ht, e⟩
    obtain ⟨i, hi, rfl⟩ := List.getElem_of_mem ht
    have := h6 i hi
    rw [decide_eq_true_iff, tErr_six] at e
    simp [List.getD, hi] at this; omega
  unfold lErr
  rw [if_neg (by omega), if_neg n6, if_pos (any_of hk (decide_eq_true h))]
theorem lErr_rest {l : List Tk} (h1 : 1 ≤ l.length ∧ l.length ≤ 16) (h0 : ∀ i, i < l.length → tErr (l.getD i default) = 0) : lErr l = if (l.map Tk.name).Nodup then 0 else 12 := by
  have all : ∀ t ∈ l, tErr t = 0 := by
    intro t ht
    obtain ⟨i, hi, rfl⟩ := List.getElem_of_mem ht
    have := h0 i hi
    simpa [List.getD, hi] using this
  have n6 : ¬ l.any (fun t => decide (tErr t = 6)) = true := by
    rw [List.any_eq_true]; rintro ⟨t, ht, e⟩
    have := all t ht
    rw [decide_eq_true_iff] at e; omega
  have n2 : ¬ l.any (fun t => decide (tErr t ≠ 0)) = true := by
    rw [List.any_eq_true]; rintro ⟨t, ht, e⟩
    have := all t ht
    rw [decide_eq_true_iff] at e; omega
  unfold lErr
  rw [if_neg (by omega), if_neg n6, if_neg n2]
theorem names_apart {l : List Tk} (h : ∀ i j, i < l.length → j < i → (l.getD i default).name ≠ (l.getD j default).name) : (l.map Tk.name).Nodup := by
  rw [List.Nodup, List.pairwise_iff_getElem]
  intro i j hi hj hij
  rw [List.length_map] at hi hj
  have := h j i hj hij
  simp [List.getD, hi, hj] at this
  simp only [List.getElem_map]
  exact fun e => this e.symm
theorem names_same {l : List Tk} {i j : Nat} (hi : i < l.length) (hj : j < i) (h : (l.getD i default).name = (l.getD j default).name) : ¬ (l.map Tk.name).Nodup := by
  rw [List.Nodup, List.pairwise_iff_getElem]
  intro hn
  have := hn j i (by rw [List.length_map]; omega) (by rw [List.length_map]; omega) hj
  simp [List.getD, hi, show j < l.length by omega] at h
  simp only [List.getElem_map] at this
  exact this h.symm
def bgns (p : List Prt) (n : Nat) : List Int := (List.range n).map fun i => bgn p i
theorem bgns_len (p : List Prt) (n : Nat) : (bgns p n).length = n := by simp [bgns]
theorem bgns_succ (p : List Prt) (n : Nat) : bgns p (n + 1) = bgns p n ++ [bgn p n] := by simp [bgns, List.range_succ]
theorem bgns_get {p : List Prt} {n i : Nat} (hi : i < n) : (bgns p n).getD i default = bgn p i := by simp [bgns, List.getD, hi]
theorem bgn_succ {p : List Prt} {i : Nat} (h0 : 0 < i) (hi : i < p.length) : bgn p i = en p (i - 1) + (pt p i).gap := by
  unfold bgn
  rw [← fin_take (i := i - 1) (by omega), show i - 1 + 1 = i by omega]
/-- valid parts, and what is known of their sums -/
structure Gd (l : List Tk) (p : List Prt) : Prop where
  tks : TksOk l
  most : p.length ≤ 32
  each : ∀ i, i < p.length → PrtOk l (pt p i)
theorem gd_fin {l : List Tk} {p : List Prt} (h : Gd l p) {k : Nat} (hk : k ≤ p.length) : -262144 ≤ fin (p.take k) ∧ fin (p.take k) ≤ 262144 := by
  have := fin_bd h.tks k hk (fun i hi => goodP_iff.2 (h.each i (by omega)))
  have := h.most; omega
theorem gd_prt {l : List Tk} {p : List Prt} (h : Gd l p) {i : Nat} (hi : i < p.length) : (-4096 ≤ (pt p i).gap ∧ (pt p i).gap ≤ 4096) ∧ (1 ≤ lng (pt p i) ∧ lng (pt p i) ≤ 4096) ∧ 0 ≤ (pt p i).fr ∧ (pt p i).to ≤ 4096 := by
  have h2 := h.each i hi
  have h3 := h2.frto
  have h4 := h2.fr0
  have h5 := h2.to1
  have h7 : (tkOf l (pt p i)).data.length ≤ 4096 := by
    have a := h2.tk0; have b := h2.tk1
    exact (tErr_zero.1 (h.tks.each _ (getD_mem (i := (pt p i).tk.toNat) (by omega)))).1
  refine ⟨h2.gap, ?_⟩
  unfold lng; omega
theorem gd_bgn {l : List Tk} {p : List Prt} (h : Gd l p) {i : Nat} (hi : i < p.length) : (-280000 ≤ bgn p i ∧ bgn p i ≤ 280000) ∧ (-280000 ≤ en p i ∧ en p i ≤ 280000) ∧ en p i = bgn p i + lng (pt p i) ∧ bgn p i = fin (p.take i) + (pt p i).gap := by
  have h1 := gd_fin h (k := i) (by omega)
  have h2 := gd_prt h hi
  refine ⟨?_, ?_, rfl, rfl⟩
  · unfold bgn; omega
  · unfold en bgn; omega
section
variable {w : World} {A A2 : Option Addr} {c c2 : Nat}
theorem C_rIsName {s : ByteArray} : Con0 Tryd.prog 72 [.string s] w (.bool (isNm s)) := by
  have no : ∀ {p : Prop}, ¬ ((1 ≤ s.size ∧ s.size ≤ 20) ∧ ∀ i, i < s.size → nmB (s.data.toList.getD i 0) = true) → isNm s = false := fun h => by rw [Bool.eq_false_iff]; exact fun e => h (isNm_iff.1 e)
  refine Ret_of (vs := [_]) hm none' Tryd.func72 rfl Tryd.ntmps72 rfl ?_
  dsimp only [slotsOf]
  refine GE_seq ?_
  refine GE_plain (.st 0 .nil) rfl ?_
  refine GT_st rfl rfl rfl rfl (V_assign rfl rfl) ?_
  refine GT_nil ?_
  refine GE_seq ?_
  refine GE_seq ?_
  refine GE_plain (.st 0 (.st 1 (.st 2 (.st 3 (.st 4 (.st 5 (.st 6 (.st 7 .nil)))))))) rfl ?_
  refine GT_st rfl rfl rfl rfl (V_move rfl rfl) ?_
  refine GT_st rfl rfl rfl rfl (V_len_str rfl Tryd.underlying9 rfl) ?_
  refine GT_st rfl rfl rfl rfl (V_lss rfl rfl rfl) ?_
  refine GT_st rfl rfl rfl rfl (V_move rfl rfl) ?_
  first | refine GT_splitNot (d := 7) rfl (fun h1 => ?_) (fun h1 => ?_) | refine GT_split (d := 7) rfl (fun h1 => ?_) (fun h1 => ?_) | refine GT_splitNotB (d := 7) rfl (fun h1 => ?_) (fun h1 => ?_) | refine GT_splitB (d := 7) rfl (fun h1 => ?_) (fun h1 => ?_)
  · skip
    refine GT_skip rfl rfl rfl rfl rfl (by decide) rfl rfl ?_
    refine GT_skip rfl rfl rfl rfl rfl (by decide) rfl rfl ?_
    refine GT_skip rfl rfl rfl rfl rfl (by decide) rfl rfl ?_
    refine GT_st rfl rfl rfl rfl (V_pick_t rfl rfl rfl) ?_
    refine GT_nil ?_
    refine GE_cond_t rfl ?_
    refine GE_seq ?_
    refine GE_slots (L' := []) trivial ?_
    refine GE_plain (.st 0 .nil) rfl ?_
    refine GT_st rfl rfl rfl rfl (V_assign rfl rfl) ?_
    refine GT_nil ?_
    refine GE_ret Tryd.func72 rfl (fun w hw => ⟨?_, hw.nil⟩)
    first | (rw [no (p := True) (by omega)]; done) | rw [no (p := True) (fun e => by have := nmB_iff.1 (e.2 k hkl); omega)]
  · skip
    refine GT_st_g rfl rfl rfl rfl rfl rfl rfl (V_move rfl rfl) ?_
    refine GT_st_g rfl rfl rfl rfl rfl rfl rfl (V_len_str rfl Tryd.underlying9 rfl) ?_
    refine GT_st_g rfl rfl rfl rfl rfl rfl rfl (V_gtr rfl rfl rfl) ?_
    refine GT_st rfl rfl rfl rfl (V_pick_f rfl rfl rfl) ?_
    refine GT_nil ?_
    first | refine GE_condNot rfl (fun q1 => ?_) (fun q1 => ?_) | refine GE_cond rfl (fun q1 => ?_) (fun q1 => ?_) | refine GE_condNotB rfl (fun q1 => ?_) (fun q1 => ?_) | refine GE_condB rfl (fun q1 => ?_) (fun q1 => ?_)
    · skip
      refine GE_seq ?_
      refine GE_slots (L' := []) trivial ?_
      refine GE_plain (.st 0 .nil) rfl ?_
      refine GT_st rfl rfl rfl rfl (V_assign rfl rfl) ?_
      refine GT_nil ?_
      refine GE_ret Tryd.func72 rfl (fun w hw => ⟨?_, hw.nil⟩)
      rw [no (p := True) (by omega)]
    · skip
      refine GE_skip ?_
      refine GE_seq ?_
      refine GE_seq ?_
      refine GE_slots (L' := [(0, _)]) ⟨rfl, trivial⟩ ?_
      refine GE_plain (.st 0 .nil) rfl ?_
      refine GT_st rfl rfl rfl rfl (V_assign rfl rfl) ?_
      refine GT_nil ?_
      refine GE_block ?_
      refine GE_to (GE_loop (ι := Nat) (fun k => s.size - k) (fun k => [(0, .string s), (3, I k)]) (fun k => []) (fun k => k ≤ s.size ∧ ∀ i, i < k → nmB (s.data.toList.getD i 0) = true) ?_ 0 ?_) ⟨rfl, rfl, trivial⟩ HS.nil
      · rintro k ⟨hk, hall⟩ ih
        refine GE_seq ?_
        refine GE_seq ?_
        refine GE_plain (.st 0 (.st 1 (.st 2 (.st 3 .nil)))) rfl ?_
        refine GT_st rfl rfl rfl rfl (V_move rfl rfl) ?_
        refine GT_st rfl rfl rfl rfl (V_move rfl rfl) ?_
        refine GT_st rfl rfl rfl rfl (V_len_str rfl Tryd.underlying9 rfl) ?_
        refine GT_st rfl rfl rfl rfl (V_lss rfl rfl rfl) ?_
        refine GT_nil ?_
        first | refine GE_condNot rfl (fun q2 => ?_) (fun q2 => ?_) | refine GE_cond rfl (fun q2 => ?_) (fun q2 => ?_) | refine GE_condNotB rfl (fun q2 => ?_) (fun q2 => ?_) | refine GE_condB rfl (fun q2 => ?_) (fun q2 => ?_)
        · have hkl : k < s.size := (by omega)
          refine GE_skip ?_
          refine GE_seq ?_
          refine GE_block ?_
          refine GE_seq ?_
          refine GE_slots (L' := [(0, _), (3, _)]) ⟨rfl, rfl, trivial⟩ ?_
          refine GE_plain (.st 0 (.st 1 (.st 2 (.st 3 (.st 4 (.st 5 (.st 6 (.st 7 (.st 8 (.st 9 (.st 10 (.st 11 (.st 12 (.st 13 (.st 14 (.st 15 (.st 16 (.st 17 (.st 18 (.st 19 (.st 20 (.st 21 (.st 22 (.st 23 .nil)))))))))))))))))))))))) rfl ?_
          refine GT_st rfl rfl rfl rfl (V_move rfl rfl) ?_
          refine GT_st rfl rfl rfl rfl (V_move rfl rfl) ?_
          refine GT_st rfl rfl rfl rfl (V_indexStr rfl rfl rfl Tryd.underlying9 rfl (by omega)) ?_
          refine GT_st rfl rfl rfl rfl (V_geq rfl rfl rfl) ?_
          refine GT_st rfl rfl rfl rfl (V_move rfl rfl) ?_
          first | refine GT_splitNot (d := 22) rfl (fun q3 => ?_) (fun q3 => ?_) | refine GT_split (d := 22) rfl (fun q3 => ?_) (fun q3 => ?_) | refine GT_splitNotB (d := 22) rfl (fun q3 => ?_) (fun q3 => ?_) | refine GT_splitB (d := 22) rfl (fun q3 => ?_) (fun q3 => ?_)
          · skip
            refine GT_st_g rfl rfl rfl rfl rfl rfl rfl (V_move rfl rfl) ?_
            refine GT_st_g rfl rfl rfl rfl rfl rfl rfl (V_move rfl rfl) ?_
            refine GT_st_g rfl rfl rfl rfl rfl rfl rfl (V_indexStr rfl rfl rfl Tryd.underlying9 rfl (by omega)) ?_
            refine GT_st_g rfl rfl rfl rfl rfl rfl rfl (V_leq rfl rfl rfl) ?_
            refine GT_st rfl rfl rfl rfl (V_pick_t rfl rfl rfl) ?_
            first | refine GT_st rfl rfl rfl rfl (V_not rfl rfl) ?_ | refine GT_st rfl rfl rfl rfl (V_notB rfl rfl) ?_
            refine GT_st rfl rfl rfl rfl (V_move rfl rfl) ?_
            first | refine GT_splitNot (d := 29) rfl (fun q4 => ?_) (fun q4 => ?_) | refine GT_split (d := 29) rfl (fun q4 => ?_) (fun q4 => ?_) | refine GT_splitNotB (d := 29) rfl (fun q4 => ?_) (fun q4 => ?_) | refine GT_splitB (d := 29) rfl (fun q4 => ?_) (fun q4 => ?_)
            · skip
              refine GT_st_g rfl rfl rfl rfl rfl rfl rfl (V_move rfl rfl) ?_
              refine GT_st_g rfl rfl rfl rfl rfl rfl rfl (V_move rfl rfl) ?_
              refine GT_st_g rfl rfl rfl rfl rfl rfl rfl (V_indexStr rfl rfl rfl Tryd.underlying9 rfl (by omega)) ?_
              refine GT_st_g rfl rfl rfl rfl rfl rfl rfl (V_geq rfl rfl rfl) ?_
              refine GT_st_g rfl rfl rfl rfl rfl rfl rfl (V_move rfl rfl) ?_
              first | refine GT_splitNot (d := 34) rfl (fun q5 => ?_) (fun q5 => ?_) | refine GT_split (d := 34) rfl (fun q5 => ?_) (fun q5 => ?_) | refine GT_splitNotB (d := 34) rfl (fun q5 => ?_) (fun q5 => ?_) | refine GT_splitB (d := 34) rfl (fun q5 => ?_) (fun q5 => ?_)
              · skip
                refine GT_st_g rfl rfl rfl rfl rfl rfl rfl (V_move rfl rfl) ?_
                refine GT_st_g rfl rfl rfl rfl rfl rfl rfl (V_move rfl rfl) ?_
                refine GT_st_g rfl rfl rfl rfl rfl rfl rfl (V_indexStr rfl rfl rfl Tryd.underlying9 rfl (by omega)) ?_
                refine GT_st_g rfl rfl rfl rfl rfl rfl rfl (V_leq rfl rfl rfl) ?_
                refine GT_st_g rfl rfl rfl rfl rfl rfl rfl (V_pick_t rfl rfl rfl) ?_
                first | refine GT_st_g rfl rfl rfl rfl rfl rfl rfl (V_not rfl rfl) ?_ | refine GT_st_g rfl rfl rfl rfl rfl rfl rfl (V_notB rfl rfl) ?_
                refine GT_st rfl rfl rfl rfl (V_pick_t rfl rfl rfl) ?_
                refine GT_nil ?_
                first | refine GE_condNot rfl (fun q6 => ?_) (fun q6 => ?_) | refine GE_cond rfl (fun q6 => ?_) (fun q6 => ?_) | refine GE_condNotB rfl (fun q6 => ?_) (fun q6 => ?_) | refine GE_condB rfl (fun q6 => ?_) (fun q6 => ?_)
                · skip
                  refine GE_seq ?_
                  refine GE_slots (L' := []) trivial ?_
                  refine GE_plain (.st 0 .nil) rfl ?_
                  refine GT_st rfl rfl rfl rfl (V_assign rfl rfl) ?_
                  refine GT_nil ?_
                  refine GE_ret Tryd.func72 rfl (fun w hw => ⟨?_, hw.nil⟩)
                  rw [no (p := True) (fun e => by have := nmB_iff.1 (e.2 k hkl); omega)]
                · skip
                  refine GE_skip ?_
                  refine GE_inBlock ?_
                  refine GE_slots (L' := [(0, _), (3, _), (23, _), (24, _), (25, _), (26, _), (30, _), (31, _), (32, _), (33, _), (34, _), (35, _), (36, _), (37, _), (38, _), (39, _), (40, _)]) ⟨rfl, rfl, rfl, rfl, rfl, rfl, rfl, rfl, rfl, rfl, rfl, rfl, rfl, rfl, rfl, rfl, rfl, trivial⟩ ?_
                  refine GE_plain (.st 0 (.st 1 (.ld 2 [] .nil))) rfl ?_
                  refine GT_st rfl rfl rfl rfl (V_move rfl rfl) ?_
                  refine GT_st rfl rfl rfl rfl (V_add rfl rfl rfl (wrap_i64 (by omega))) ?_
                  refine GT_ldv rfl rfl rfl rfl rfl (V_assign rfl rfl) (GR_nil) ?_
                  refine GT_nil ?_
                  exact GE_to (ih (k + 1) ⟨by omega, fun i hi => by rcases Nat.lt_or_ge i k with r | r; exact hall i r; rw [show i = k by omega]; exact nmB_iff.2 (by omega)⟩ (by omega)) ⟨rfl, rfl, trivial⟩ HS.nil
              · skip
                refine GT_skip rfl rfl rfl rfl rfl (by decide) rfl rfl ?_
                refine GT_skip rfl rfl rfl rfl rfl (by decide) rfl rfl ?_
                refine GT_skip rfl rfl rfl rfl rfl (by decide) rfl rfl ?_
                refine GT_skip rfl rfl rfl rfl rfl (by decide) rfl rfl ?_
                refine GT_st_g rfl rfl rfl rfl rfl rfl rfl (V_pick_f rfl rfl rfl) ?_
                first | refine GT_st_g rfl rfl rfl rfl rfl rfl rfl (V_not rfl rfl) ?_ | refine GT_st_g rfl rfl rfl rfl rfl rfl rfl (V_notB rfl rfl) ?_
                refine GT_st rfl rfl rfl rfl (V_pick_t rfl rfl rfl) ?_
                refine GT_nil ?_
                refine GE_cond_t rfl ?_
                refine GE_seq ?_
                refine GE_slots (L' := []) trivial ?_
                refine GE_plain (.st 0 .nil) rfl ?_
                refine GT_st rfl rfl rfl rfl (V_assign rfl rfl) ?_
                refine GT_nil ?_
                refine GE_ret Tryd.func72 rfl (fun w hw => ⟨?_, hw.nil⟩)
                first | (rw [no (p := True) (by omega)]; done) | rw [no (p := True) (fun e => by have := nmB_iff.1 (e.2 k hkl); omega)]
            · skip
              refine GT_skip rfl rfl rfl rfl rfl (by decide) rfl rfl ?_
              refine GT_skip rfl rfl rfl rfl rfl (by decide) rfl rfl ?_
              refine GT_skip rfl rfl rfl rfl rfl (by decide) rfl rfl ?_
              refine GT_skip rfl rfl rfl rfl rfl (by decide) rfl rfl ?_
              refine GT_skip rfl rfl rfl rfl rfl (by decide) rfl rfl ?_
              refine GT_skip rfl rfl rfl rfl rfl (by decide) rfl rfl ?_
              refine GT_skip rfl rfl rfl rfl rfl (by decide) rfl rfl ?_
              refine GT_skip rfl rfl rfl rfl rfl (by decide) rfl rfl ?_
              refine GT_skip rfl rfl rfl rfl rfl (by decide) rfl rfl ?_
              refine GT_skip rfl rfl rfl rfl rfl (by decide) rfl rfl ?_
              refine GT_skip rfl rfl rfl rfl rfl (by decide) rfl rfl ?_
              refine GT_st rfl rfl rfl rfl (V_pick_f rfl rfl rfl) ?_
              refine GT_nil ?_
              refine GE_cond_f rfl ?_
              refine GE_skip ?_
              refine GE_inBlock ?_
              refine GE_slots (L' := [(0, _), (3, _), (23, _), (24, _), (25, _), (26, _), (30, _), (31, _), (32, _), (33, _), (34, _), (35, _), (36, _), (37, _), (38, _), (39, _), (40, _)]) ⟨rfl, rfl, rfl, rfl, rfl, rfl, rfl, rfl, rfl, rfl, rfl, rfl, rfl, rfl, rfl, rfl, rfl, trivial⟩ ?_
              refine GE_plain (.st 0 (.st 1 (.ld 2 [] .nil))) rfl ?_
              refine GT_st rfl rfl rfl rfl (V_move rfl rfl) ?_
              refine GT_st rfl rfl rfl rfl (V_add rfl rfl rfl (wrap_i64 (by omega))) ?_
              refine GT_ldv rfl rfl rfl rfl rfl (V_assign rfl rfl) (GR_nil) ?_
              refine GT_nil ?_
              exact GE_to (ih (k + 1) ⟨by omega, fun i hi => by rcases Nat.lt_or_ge i k with r | r; exact hall i r; rw [show i = k by omega]; exact nmB_iff.2 (by omega)⟩ (by omega)) ⟨rfl, rfl, trivial⟩ HS.nil
          · skip
            refine GT_skip rfl rfl rfl rfl rfl (by decide) rfl rfl ?_
            refine GT_skip rfl rfl rfl rfl rfl (by decide) rfl rfl ?_
            refine GT_skip rfl rfl rfl rfl rfl (by decide) rfl rfl ?_
            refine GT_skip rfl rfl rfl rfl rfl (by decide) rfl rfl ?_
            refine GT_st rfl rfl rfl rfl (V_pick_f rfl rfl rfl) ?_
            first | refine GT_st rfl rfl rfl rfl (V_not rfl rfl) ?_ | refine GT_st rfl rfl rfl rfl (V_notB rfl rfl) ?_
            refine GT_st rfl rfl rfl rfl (V_move rfl rfl) ?_
            refine GT_st_g rfl rfl rfl rfl rfl rfl rfl (V_move rfl rfl) ?_
            refine GT_st_g rfl rfl rfl rfl rfl rfl rfl (V_move rfl rfl) ?_
            refine GT_st_g rfl rfl rfl rfl rfl rfl rfl (V_indexStr rfl rfl rfl Tryd.underlying9 rfl (by omega)) ?_
            refine GT_st_g rfl rfl rfl rfl rfl rfl rfl (V_geq rfl rfl rfl) ?_
            refine GT_st_g rfl rfl rfl rfl rfl rfl rfl (V_move rfl rfl) ?_
            first | refine GT_splitNot (d := 34) rfl (fun q5 => ?_) (fun q5 => ?_) | refine GT_split (d := 34) rfl (fun q5 => ?_) (fun q5 => ?_) | refine GT_splitNotB (d := 34) rfl (fun q5 => ?_) (fun q5 => ?_) | refine GT_splitB (d := 34) rfl (fun q5 => ?_) (fun q5 => ?_)
            · skip
              refine GT_st_g rfl rfl rfl rfl rfl rfl rfl (V_move rfl rfl) ?_
              refine GT_st_g rfl rfl rfl rfl rfl rfl rfl (V_move rfl rfl) ?_
              refine GT_st_g rfl rfl rfl rfl rfl rfl rfl (V_indexStr rfl rfl rfl Tryd.underlying9 rfl (by omega)) ?_
              refine GT_st_g rfl rfl rfl rfl rfl rfl rfl (V_leq rfl rfl rfl) ?_
              refine GT_st_g rfl rfl rfl rfl rfl rfl rfl (V_pick_t rfl rfl rfl) ?_
              first | refine GT_st_g rfl rfl rfl rfl rfl rfl rfl (V_not rfl rfl) ?_ | refine GT_st_g rfl rfl rfl rfl rfl rfl rfl (V_notB rfl rfl) ?_
              refine GT_st rfl rfl rfl rfl (V_pick_t rfl rfl rfl) ?_
              refine GT_nil ?_
              first | refine GE_condNot rfl (fun q6 => ?_) (fun q6 => ?_) | refine GE_cond rfl (fun q6 => ?_) (fun q6 => ?_) | refine GE_condNotB rfl (fun q6 => ?_) (fun q6 => ?_) | refine GE_condB rfl (fun q6 => ?_) (fun q6 => ?_)
              · skip
                refine GE_seq ?_
                refine GE_slots (L' := []) trivial ?_
                refine GE_plain (.st 0 .nil) rfl ?_
                refine GT_st rfl rfl rfl rfl (V_assign rfl rfl) ?_
                refine GT_nil ?_
                refine GE_ret Tryd.func72 rfl (fun w hw => ⟨?_, hw.nil⟩)
                rw [no (p := True) (fun e => by have := nmB_iff.1 (e.2 k hkl); omega)]
              · skip
                refine GE_skip ?_
                refine GE_inBlock ?_
                refine GE_slots (L' := [(0, _), (3, _), (23, _), (24, _), (25, _), (26, _), (30, _), (31, _), (32, _), (33, _), (34, _), (35, _), (36, _), (37, _), (38, _), (39, _), (40, _)]) ⟨rfl, rfl, rfl, rfl, rfl, rfl, rfl, rfl, rfl, rfl, rfl, rfl, rfl, rfl, rfl, rfl, rfl, trivial⟩ ?_
                refine GE_plain (.st 0 (.st 1 (.ld 2 [] .nil))) rfl ?_
                refine GT_st rfl rfl rfl rfl (V_move rfl rfl) ?_
                refine GT_st rfl rfl rfl rfl (V_add rfl rfl rfl (wrap_i64 (by omega))) ?_
                refine GT_ldv rfl rfl rfl rfl rfl (V_assign rfl rfl) (GR_nil) ?_
                refine GT_nil ?_
                exact GE_to (ih (k + 1) ⟨by omega, fun i hi => by rcases Nat.lt_or_ge i k with r | r; exact hall i r; rw [show i = k by omega]; exact nmB_iff.2 (by omega)⟩ (by omega)) ⟨rfl, rfl, trivial⟩ HS.nil
            · skip
              refine GT_skip rfl rfl rfl rfl rfl (by decide) rfl rfl ?_
              refine GT_skip rfl rfl rfl rfl rfl (by decide) rfl rfl ?_
              refine GT_skip rfl rfl rfl rfl rfl (by decide) rfl rfl ?_
              refine GT_skip rfl rfl rfl rfl rfl (by decide) rfl rfl ?_
              refine GT_st_g rfl rfl rfl rfl rfl rfl rfl (V_pick_f rfl rfl rfl) ?_
              first | refine GT_st_g rfl rfl rfl rfl rfl rfl rfl (V_not rfl rfl) ?_ | refine GT_st_g rfl rfl rfl rfl rfl rfl rfl (V_notB rfl rfl) ?_
              refine GT_st rfl rfl rfl rfl (V_pick_t rfl rfl rfl) ?_
              refine GT_nil ?_
              refine GE_cond_t rfl ?_
              refine GE_seq ?_
              refine GE_slots (L' := []) trivial ?_
              refine GE_plain (.st 0 .nil) rfl ?_
              refine GT_st rfl rfl rfl rfl (V_assign rfl rfl) ?_
              refine GT_nil ?_
              refine GE_ret Tryd.func72 rfl (fun w hw => ⟨?_, hw.nil⟩)
              first | (rw [no (p := True) (by omega)]; done) | rw [no (p := True) (fun e => by have := nmB_iff.1 (e.2 k hkl); omega)]
        · skip
          refine GE_exit rfl ?_
          refine GE_seq ?_
          refine GE_slots (L' := []) trivial ?_
          refine GE_plain (.st 0 .nil) rfl ?_
          refine GT_st rfl rfl rfl rfl (V_assign rfl rfl) ?_
          refine GT_nil ?_
          refine GE_ret Tryd.func72 rfl (fun w hw => ⟨?_, hw.nil⟩)
          rw [isNm_iff.2 ⟨⟨by omega, by omega⟩, fun i hi => hall i (by omega)⟩]
      · exact ⟨Nat.zero_le _, fun i hi => absurd hi (Nat.not_lt_zero _)⟩
theorem C_rtake {t : Tk} (h : RdL w 2 eSam t.A t.data) (hs : ∀ x ∈ t.data, x.wf) : Con0 Tryd.prog 61 [.agg #[.string t.name, .slice t.A t.data.length t.c]] w (I (tErr t)) := by
  refine Ret_of (vs := [_]) hm none' Tryd.func61 rfl Tryd.ntmps61 rfl ?_
  dsimp only [slotsOf]
  refine GE_seq ?_
  refine GE_plain (.ld 0 [] (.st 1 .nil)) rfl ?_
  refine GT_box (z := [_, _]) rfl rfl rfl rfl rfl rfl rfl (fun _ => GR_nil) (fun b1 => ?_)
  refine GT_st rfl rfl rfl rfl (V_assign rfl rfl) ?_
  refine GT_nil ?_
  refine GE_seq ?_
  refine GE_seq ?_
  refine GE_plain (.st 0 (.st 1 (.st 2 (.st 3 .nil)))) rfl ?_
  first | refine GT_st rfl rfl rfl rfl (V_field rfl rfl fo_27_1) ?_ | refine GT_st rfl rfl rfl rfl (V_fieldA rfl rfl fo_27_1) ?_
  refine GT_st rfl rfl rfl rfl (V_load rfl rfl ag_22 (CellAt.item rfl)) ?_
  refine GT_st rfl rfl rfl rfl (V_len rfl Tryd.underlying22 rfl) ?_
  refine GT_st rfl rfl rfl rfl (V_gtr rfl rfl rfl) ?_
  refine GT_nil ?_
  first | refine GE_condNot rfl (fun q1 => ?_) (fun q1 => ?_) | refine GE_cond rfl (fun q1 => ?_) (fun q1 => ?_) | refine GE_condNotB rfl (fun q1 => ?_) (fun q1 => ?_) | refine GE_condB rfl (fun q1 => ?_) (fun q1 => ?_)
  · skip
    refine GE_seq ?_
    refine GE_slots (L' := []) trivial ?_
    refine GE_plain (.st 0 .nil) rfl ?_
    refine GT_st rfl rfl rfl rfl (V_assign rfl rfl) ?_
    refine GT_nil ?_
    refine GE_ret Tryd.func61 rfl (fun w hw => ⟨?_, hw.nil⟩)
    rw [tErr, if_pos (by omega)]
  · skip
    refine GE_skip ?_
    refine GE_seq ?_
    refine GE_seq ?_
    refine GE_slots (L' := [(1, _)]) ⟨rfl, trivial⟩ ?_
    refine GE_plain (.st 0 (.st 1 (.ld 2 [] (.st 3 (.st 4 (.st 5 (.st 6 (.st 7 (.st 8 (.st 9 .nil)))))))))) rfl ?_
    first | refine GT_st rfl rfl rfl rfl (V_field rfl rfl fo_27_0) ?_ | refine GT_st rfl rfl rfl rfl (V_fieldA rfl rfl fo_27_0) ?_
    refine GT_st rfl rfl rfl rfl (V_load rfl rfl ag_9 (CellAt.item rfl)) ?_
    refine GT_call0 rfl rfl rfl rfl rfl rfl rfl rfl rn_72 (fun w hw => C_rIsName) (GR_nil) ?_
    first | refine GT_st rfl rfl rfl rfl (V_not rfl rfl) ?_ | refine GT_st rfl rfl rfl rfl (V_notB rfl rfl) ?_
    refine GT_st rfl rfl rfl rfl (V_move rfl rfl) ?_
    first | refine GT_splitNot (d := 11) rfl (fun q2 => ?_) (fun q2 => ?_) | refine GT_split (d := 11) rfl (fun q2 => ?_) (fun q2 => ?_) | refine GT_splitNotB (d := 11) rfl (fun q2 => ?_) (fun q2 => ?_) | refine GT_splitB (d := 11) rfl (fun q2 => ?_) (fun q2 => ?_)
    · skip
      refine GT_skip rfl rfl rfl rfl rfl (by decide) rfl rfl ?_
      refine GT_skip rfl rfl rfl rfl rfl (by decide) rfl rfl ?_
      refine GT_skip rfl rfl rfl rfl rfl (by decide) rfl rfl ?_
      refine GT_skip rfl rfl rfl rfl rfl (by decide) rfl rfl ?_
      refine GT_st rfl rfl rfl rfl (V_pick_t rfl rfl rfl) ?_
      refine GT_nil ?_
      refine GE_cond_t rfl ?_
      refine GE_seq ?_
      refine GE_slots (L' := []) trivial ?_
      refine GE_plain (.st 0 .nil) rfl ?_
      refine GT_st rfl rfl rfl rfl (V_assign rfl rfl) ?_
      refine GT_nil ?_
      refine GE_ret Tryd.func61 rfl (fun w hw => ⟨?_, hw.nil⟩)
      first | (have hn : ¬ 4096 < t.data.length := (by omega); have hz : t.data.length ≠ 0 := (by omega); refine congrArg I ?_; unfold sErr tErr; rw [if_neg hn, if_neg hn, q2]; simp [hz]; done) | (refine congrArg I (Eq.symm ?_); rw [tErr, if_neg (by omega), if_neg]; rw [q2]; simp)
    · skip
      first | refine GT_st_g rfl rfl rfl rfl rfl rfl rfl (V_field rfl rfl fo_27_1) ?_ | refine GT_st_g rfl rfl rfl rfl rfl rfl rfl (V_fieldA rfl rfl fo_27_1) ?_
      refine GT_st_g rfl rfl rfl rfl rfl rfl rfl (V_load rfl rfl ag_22 (CellAt.item rfl)) ?_
      refine GT_st_g rfl rfl rfl rfl rfl rfl rfl (V_len rfl Tryd.underlying22 rfl) ?_
      refine GT_st_g rfl rfl rfl rfl rfl rfl rfl (V_eql rfl rfl rfl) ?_
      refine GT_st rfl rfl rfl rfl (V_pick_f rfl rfl rfl) ?_
      refine GT_nil ?_
      first | refine GE_condNot rfl (fun q3 => ?_) (fun q3 => ?_) | refine GE_cond rfl (fun q3 => ?_) (fun q3 => ?_) | refine GE_condNotB rfl (fun q3 => ?_) (fun q3 => ?_) | refine GE_condB rfl (fun q3 => ?_) (fun q3 => ?_)
      · skip
        refine GE_seq ?_
        refine GE_slots (L' := []) trivial ?_
        refine GE_plain (.st 0 .nil) rfl ?_
        refine GT_st rfl rfl rfl rfl (V_assign rfl rfl) ?_
        refine GT_nil ?_
        refine GE_ret Tryd.func61 rfl (fun w hw => ⟨?_, hw.nil⟩)
        refine congrArg I (Eq.symm ?_); rw [tErr, if_neg (by omega), if_neg]; rw [Bool.and_eq_true, Bool.and_eq_true, decide_eq_true_iff]; rintro ⟨⟨_, hh⟩, _⟩; omega
      · skip
        refine GE_skip ?_
        refine GE_seq ?_
        refine GE_slots (L' := [(1, _)]) ⟨rfl, trivial⟩ ?_
        refine GE_plain (.st 0 (.st 1 (.ld 2 [] (.st 3 .nil)))) rfl ?_
        first | refine GT_st rfl rfl rfl rfl (V_field rfl rfl fo_27_1) ?_ | refine GT_st rfl rfl rfl rfl (V_fieldA rfl rfl fo_27_1) ?_
        refine GT_st rfl rfl rfl rfl (V_load rfl rfl ag_22 (CellAt.item rfl)) ?_
        refine GT_call0 rfl rfl rfl rfl rfl rfl rfl rfl rn_15 (fun w hw => C_rCheckSamples (h.sh hw) hs) (GR_nil) ?_
        refine GT_st rfl rfl rfl rfl (V_assign rfl rfl) ?_
        refine GT_nil ?_
        refine GE_ret Tryd.func61 rfl (fun w hw => ⟨?_, hw.nil⟩)
        first | (have hn : ¬ 4096 < t.data.length := (by omega); have hz : t.data.length ≠ 0 := (by omega); refine congrArg I ?_; unfold sErr tErr; rw [if_neg hn, if_neg hn, q2]; simp [hz]; done) | (refine congrArg I (Eq.symm ?_); rw [tErr, if_neg (by omega), if_neg]; rw [q2]; simp)
set_option maxRecDepth 10000 in
theorem C_rCheckTakes {l : List Tk} (h : Tks w A l) : Con0 Tryd.prog 38 [.slice A l.length c] w (I (lErr l)) := by
  refine Ret_of (vs := [_]) hm none' Tryd.func38 rfl Tryd.ntmps38 rfl ?_
  dsimp only [slotsOf]
  refine GE_seq ?_
  refine GE_plain (.st 0 .nil) rfl ?_
  refine GT_st rfl rfl rfl rfl (V_assign rfl rfl) ?_
  refine GT_nil ?_
  refine GE_seq ?_
  refine GE_seq ?_
  refine GE_plain (.st 0 (.st 1 (.st 2 (.st 3 (.st 4 (.st 5 (.st 6 (.st 7 .nil)))))))) rfl ?_
  refine GT_st rfl rfl rfl rfl (V_move rfl rfl) ?_
  refine GT_st rfl rfl rfl rfl (V_len rfl Tryd.underlying28 rfl) ?_
  refine GT_st rfl rfl rfl rfl (V_lss rfl rfl rfl) ?_
  refine GT_st rfl rfl rfl rfl (V_move rfl rfl) ?_
  first | refine GT_splitNot (d := 10) rfl (fun h1 => ?_) (fun h1 => ?_) | refine GT_split (d := 10) rfl (fun h1 => ?_) (fun h1 => ?_) | refine GT_splitNotB (d := 10) rfl (fun h1 => ?_) (fun h1 => ?_) | refine GT_splitB (d := 10) rfl (fun h1 => ?_) (fun h1 => ?_)
  · skip
    refine GT_skip rfl rfl rfl rfl rfl (by decide) rfl rfl ?_
    refine GT_skip rfl rfl rfl rfl rfl (by decide) rfl rfl ?_
    refine GT_skip rfl rfl rfl rfl rfl (by decide) rfl rfl ?_
    refine GT_st rfl rfl rfl rfl (V_pick_t rfl rfl rfl) ?_
    refine GT_nil ?_
    refine GE_cond_t rfl ?_
    refine GE_seq ?_
    refine GE_slots (L' := []) trivial ?_
    refine GE_plain (.st 0 .nil) rfl ?_
    refine GT_st rfl rfl rfl rfl (V_assign rfl rfl) ?_
    refine GT_nil ?_
    refine GE_ret Tryd.func38 rfl (fun w hw => ⟨?_, hw.nil⟩)
    rw [lErr, if_pos (by omega)]
  · skip
    refine GT_st_g rfl rfl rfl rfl rfl rfl rfl (V_move rfl rfl) ?_
    refine GT_st_g rfl rfl rfl rfl rfl rfl rfl (V_len rfl Tryd.underlying28 rfl) ?_
    refine GT_st_g rfl rfl rfl rfl rfl rfl rfl (V_gtr rfl rfl rfl) ?_
    refine GT_st rfl rfl rfl rfl (V_pick_f rfl rfl rfl) ?_
    refine GT_nil ?_
    first | refine GE_condNot rfl (fun q1 => ?_) (fun q1 => ?_) | refine GE_cond rfl (fun q1 => ?_) (fun q1 => ?_) | refine GE_condNotB rfl (fun q1 => ?_) (fun q1 => ?_) | refine GE_condB rfl (fun q1 => ?_) (fun q1 => ?_)
    · skip
      refine GE_seq ?_
      refine GE_slots (L' := []) trivial ?_
      refine GE_plain (.st 0 .nil) rfl ?_
      refine GT_st rfl rfl rfl rfl (V_assign rfl rfl) ?_
      refine GT_nil ?_
      refine GE_ret Tryd.func38 rfl (fun w hw => ⟨?_, hw.nil⟩)
      rw [lErr, if_pos (by omega)]
    · skip
      refine GE_skip ?_
      refine GE_seq ?_
      refine GE_seq ?_
      refine GE_slots (L' := [(0, _)]) ⟨rfl, trivial⟩ ?_
      refine GE_plain (.st 0 .nil) rfl ?_
      refine GT_st rfl rfl rfl rfl (V_assign rfl rfl) ?_
      refine GT_nil ?_
      refine GE_block ?_
      refine GE_to (GE_loop (ι := Nat) (fun k => l.length - k) (fun k => [(0, .slice A l.length c), (3, I k)]) (fun k => []) (fun k => k ≤ l.length ∧ ∀ i, i < k → (l.getD i default).data.length ≤ 4096) ?_ 0 ?_) ⟨rfl, rfl, trivial⟩ HS.nil
      · rintro k ⟨hk, h6⟩ ih
        refine GE_seq ?_
        refine GE_seq ?_
        refine GE_plain (.st 0 (.st 1 (.st 2 (.st 3 .nil)))) rfl ?_
        refine GT_st rfl rfl rfl rfl (V_move rfl rfl) ?_
        refine GT_st rfl rfl rfl rfl (V_move rfl rfl) ?_
        refine GT_st rfl rfl rfl rfl (V_len rfl Tryd.underlying28 rfl) ?_
        refine GT_st rfl rfl rfl rfl (V_lss rfl rfl rfl) ?_
        refine GT_nil ?_
        first | refine GE_condNot rfl (fun q2 => ?_) (fun q2 => ?_) | refine GE_cond rfl (fun q2 => ?_) (fun q2 => ?_) | refine GE_condNotB rfl (fun q2 => ?_) (fun q2 => ?_) | refine GE_condB rfl (fun q2 => ?_) (fun q2 => ?_)
        · have hkl : k < l.length := (by omega)
          refine GE_skip ?_
          refine GE_seq ?_
          refine GE_block ?_
          refine GE_seq ?_
          refine GE_slots (L' := [(0, _), (3, _)]) ⟨rfl, rfl, trivial⟩ ?_
          refine GE_plain (.st 0 (.st 1 (.st 2 (.st 3 (.st 4 (.st 5 (.st 6 .nil))))))) rfl ?_
          refine GT_st rfl rfl rfl rfl (V_move rfl rfl) ?_
          refine GT_st rfl rfl rfl rfl (V_move rfl rfl) ?_
          refine GT_st rfl rfl rfl rfl (V_index rfl rfl rfl Tryd.underlying28 sz_27 (k := k) rfl hkl (h.1.isSome hkl)) ?_
          first | refine GT_st rfl rfl rfl rfl (V_field rfl rfl fo_27_1) ?_ | refine GT_st rfl rfl rfl rfl (V_fieldA rfl rfl fo_27_1) ?_
          refine GT_st rfl rfl rfl rfl (V_load rfl rfl ag_22 (h.1.at1 noM hkl rfl)) ?_
          refine GT_st rfl rfl rfl rfl (V_len rfl Tryd.underlying22 rfl) ?_
          refine GT_st rfl rfl rfl rfl (V_gtr rfl rfl rfl) ?_
          refine GT_nil ?_
          first | refine GE_condNot rfl (fun q3 => ?_) (fun q3 => ?_) | refine GE_cond rfl (fun q3 => ?_) (fun q3 => ?_) | refine GE_condNotB rfl (fun q3 => ?_) (fun q3 => ?_) | refine GE_condB rfl (fun q3 => ?_) (fun q3 => ?_)
          · skip
            refine GE_seq ?_
            refine GE_slots (L' := []) trivial ?_
            refine GE_plain (.st 0 .nil) rfl ?_
            refine GT_st rfl rfl rfl rfl (V_assign rfl rfl) ?_
            refine GT_nil ?_
            refine GE_ret Tryd.func38 rfl (fun w hw => ⟨?_, hw.nil⟩)
            rw [lErr_six hkl (tErr_six.2 (by omega))]
          · skip
            refine GE_skip ?_
            refine GE_inBlock ?_
            refine GE_slots (L' := [(0, _), (3, _)]) ⟨rfl, rfl, trivial⟩ ?_
            refine GE_plain (.st 0 (.st 1 (.ld 2 [] .nil))) rfl ?_
            refine GT_st rfl rfl rfl rfl (V_move rfl rfl) ?_
            refine GT_st rfl rfl rfl rfl (V_add rfl rfl rfl (wrap_i64 (by omega))) ?_
            refine GT_ldv rfl rfl rfl rfl rfl (V_assign rfl rfl) (GR_nil) ?_
            refine GT_nil ?_
            exact GE_to (ih (k + 1) ⟨by omega, fun i hi => by rcases Nat.lt_or_ge i k with r | r; exact h6 i r; rw [show i = k by omega]; omega⟩ (by omega)) ⟨rfl, rfl, trivial⟩ HS.nil
        · have h6a : ∀ i, i < l.length → (l.getD i default).data.length ≤ 4096 := (fun i hi => h6 i (by omega))
          refine GE_exit rfl ?_
          refine GE_seq ?_
          refine GE_seq ?_
          refine GE_slots (L' := [(0, _)]) ⟨rfl, trivial⟩ ?_
          refine GE_plain (.st 0 .nil) rfl ?_
          refine GT_st rfl rfl rfl rfl (V_assign rfl rfl) ?_
          refine GT_nil ?_
          refine GE_block ?_
          refine GE_to (GE_loop (ι := Nat) (fun j => l.length - j) (fun j => [(0, .slice A l.length c), (4, I j)]) (fun j => []) (fun j => j ≤ l.length ∧ ∀ i, i < j → tErr (l.getD i default) = 0) ?_ 0 ?_) ⟨rfl, rfl, trivial⟩ HS.nil
          · rintro j ⟨hj, h0⟩ ih2
            refine GE_seq ?_
            refine GE_seq ?_
            refine GE_plain (.st 0 (.st 1 (.st 2 (.st 3 .nil)))) rfl ?_
            refine GT_st rfl rfl rfl rfl (V_move rfl rfl) ?_
            refine GT_st rfl rfl rfl rfl (V_move rfl rfl) ?_
            refine GT_st rfl rfl rfl rfl (V_len rfl Tryd.underlying28 rfl) ?_
            refine GT_st rfl rfl rfl rfl (V_lss rfl rfl rfl) ?_
            refine GT_nil ?_
            first | refine GE_condNot rfl (fun q4 => ?_) (fun q4 => ?_) | refine GE_cond rfl (fun q4 => ?_) (fun q4 => ?_) | refine GE_condNotB rfl (fun q4 => ?_) (fun q4 => ?_) | refine GE_condB rfl (fun q4 => ?_) (fun q4 => ?_)
            · have hjl : j < l.length := (by omega); have ht := h.2 _ (getD_mem hjl)
              refine GE_skip ?_
              refine GE_seq ?_
              refine GE_block ?_
              refine GE_seq ?_
              refine GE_slots (L' := [(0, _), (4, _)]) ⟨rfl, rfl, trivial⟩ ?_
              refine GE_plain (.st 0 (.st 1 (.st 2 (.st 3 (.ld 4 [] (.st 5 .nil)))))) rfl ?_
              refine GT_st rfl rfl rfl rfl (V_move rfl rfl) ?_
              refine GT_st rfl rfl rfl rfl (V_move rfl rfl) ?_
              refine GT_st rfl rfl rfl rfl (V_index rfl rfl rfl Tryd.underlying28 sz_27 (k := j) rfl hjl (h.1.isSome hjl)) ?_
              refine GT_st rfl rfl rfl rfl (V_loadN (vs := [_, _]) rfl rfl ag_27 sz_27 rfl (h.1.ats noM hjl)) ?_
              refine GT_call0 rfl rfl rfl rfl rfl rfl rfl rfl rn_61 (fun w hw => C_rtake (t := l.getD j default) (ht.1.sh hw) ht.2.2.2) (GR_nil) ?_
              refine GT_st rfl rfl rfl rfl (V_neq rfl rfl rfl) ?_
              refine GT_nil ?_
              first | refine GE_condNot rfl (fun q5 => ?_) (fun q5 => ?_) | refine GE_cond rfl (fun q5 => ?_) (fun q5 => ?_) | refine GE_condNotB rfl (fun q5 => ?_) (fun q5 => ?_) | refine GE_condB rfl (fun q5 => ?_) (fun q5 => ?_)
              · skip
                refine GE_seq ?_
                refine GE_slots (L' := []) trivial ?_
                refine GE_plain (.st 0 .nil) rfl ?_
                refine GT_st rfl rfl rfl rfl (V_assign rfl rfl) ?_
                refine GT_nil ?_
                refine GE_ret Tryd.func38 rfl (fun w hw => ⟨?_, hw.nil⟩)
                rw [lErr_two (by omega) h6a hjl (by omega)]
              · skip
                refine GE_skip ?_
                refine GE_inBlock ?_
                refine GE_slots (L' := [(0, _), (4, _)]) ⟨rfl, rfl, trivial⟩ ?_
                refine GE_plain (.st 0 (.st 1 (.ld 2 [] .nil))) rfl ?_
                refine GT_st rfl rfl rfl rfl (V_move rfl rfl) ?_
                refine GT_st rfl rfl rfl rfl (V_add rfl rfl rfl (wrap_i64 (by omega))) ?_
                refine GT_ldv rfl rfl rfl rfl rfl (V_assign rfl rfl) (GR_nil) ?_
                refine GT_nil ?_
                exact GE_to (ih2 (j + 1) ⟨by omega, fun i hi => by rcases Nat.lt_or_ge i j with r | r; exact h0 i r; rw [show i = j by omega]; omega⟩ (by omega)) ⟨rfl, rfl, trivial⟩ HS.nil
            · have h0a : ∀ i, i < l.length → tErr (l.getD i default) = 0 := (fun i hi => h0 i (by omega)); have hlr := lErr_rest (by omega) h0a
              refine GE_exit rfl ?_
              refine GE_seq ?_
              refine GE_seq ?_
              refine GE_slots (L' := [(0, _)]) ⟨rfl, trivial⟩ ?_
              refine GE_plain (.st 0 .nil) rfl ?_
              refine GT_st rfl rfl rfl rfl (V_assign rfl rfl) ?_
              refine GT_nil ?_
              refine GE_block ?_
              refine GE_to (GE_loop (ι := Nat) (fun a => l.length - a) (fun a => [(0, .slice A l.length c), (5, I a)]) (fun a => []) (fun a => a ≤ l.length ∧ ∀ i j, i < a → j < i → (l.getD i default).name ≠ (l.getD j default).name) ?_ 0 ?_) ⟨rfl, rfl, trivial⟩ HS.nil
              · rintro a ⟨ha, hap⟩ ih3
                refine GE_seq ?_
                refine GE_seq ?_
                refine GE_plain (.st 0 (.st 1 (.st 2 (.st 3 .nil)))) rfl ?_
                refine GT_st rfl rfl rfl rfl (V_move rfl rfl) ?_
                refine GT_st rfl rfl rfl rfl (V_move rfl rfl) ?_
                refine GT_st rfl rfl rfl rfl (V_len rfl Tryd.underlying28 rfl) ?_
                refine GT_st rfl rfl rfl rfl (V_lss rfl rfl rfl) ?_
                refine GT_nil ?_
                first | refine GE_condNot rfl (fun q6 => ?_) (fun q6 => ?_) | refine GE_cond rfl (fun q6 => ?_) (fun q6 => ?_) | refine GE_condNotB rfl (fun q6 => ?_) (fun q6 => ?_) | refine GE_condB rfl (fun q6 => ?_) (fun q6 => ?_)
                · have hal : a < l.length := (by omega)
                  refine GE_skip ?_
                  refine GE_seq ?_
                  refine GE_block ?_
                  refine GE_seq ?_
                  refine GE_slots (L' := [(0, _), (5, _)]) ⟨rfl, rfl, trivial⟩ ?_
                  refine GE_plain (.st 0 .nil) rfl ?_
                  refine GT_st rfl rfl rfl rfl (V_assign rfl rfl) ?_
                  refine GT_nil ?_
                  refine GE_block ?_
                  refine GE_to (GE_loop (ι := Nat) (fun b => a - b) (fun b => [(0, .slice A l.length c), (5, I a), (6, I b)]) (fun b => []) (fun b => b ≤ a ∧ ∀ j, j < b → (l.getD a default).name ≠ (l.getD j default).name) ?_ 0 ?_) ⟨rfl, rfl, rfl, trivial⟩ HS.nil
                  · rintro b ⟨hb, hbp⟩ ih4
                    refine GE_seq ?_
                    refine GE_seq ?_
                    refine GE_plain (.st 0 (.st 1 (.st 2 .nil))) rfl ?_
                    refine GT_st rfl rfl rfl rfl (V_move rfl rfl) ?_
                    refine GT_st rfl rfl rfl rfl (V_move rfl rfl) ?_
                    refine GT_st rfl rfl rfl rfl (V_lss rfl rfl rfl) ?_
                    refine GT_nil ?_
                    first | refine GE_condNot rfl (fun q7 => ?_) (fun q7 => ?_) | refine GE_cond rfl (fun q7 => ?_) (fun q7 => ?_) | refine GE_condNotB rfl (fun q7 => ?_) (fun q7 => ?_) | refine GE_condB rfl (fun q7 => ?_) (fun q7 => ?_)
                    · have hbl : b < l.length := (by omega)
                      refine GE_skip ?_
                      refine GE_seq ?_
                      refine GE_block ?_
                      refine GE_seq ?_
                      refine GE_drawn (.st 0 (.st 1 (.st 2 (.st 3 (.st 4 (.st 5 (.st 6 (.st 7 (.st 8 (.st 9 (.st 10 .nil))))))))))) [] (by decide +kernel) ?_
                      refine GT_st rfl rfl rfl rfl (V_move rfl rfl) ?_
                      refine GT_st rfl rfl rfl rfl (V_move rfl rfl) ?_
                      refine GT_st rfl rfl rfl rfl (V_index rfl rfl rfl Tryd.underlying28 sz_27 (k := a) rfl hal (h.1.isSome hal)) ?_
                      first | refine GT_st rfl rfl rfl rfl (V_field rfl rfl fo_27_0) ?_ | refine GT_st rfl rfl rfl rfl (V_fieldA rfl rfl fo_27_0) ?_
                      refine GT_st rfl rfl rfl rfl (V_load rfl rfl ag_9 (h.1.at0 noM hal rfl)) ?_
                      refine GT_st rfl rfl rfl rfl (V_move rfl rfl) ?_
                      refine GT_st rfl rfl rfl rfl (V_move rfl rfl) ?_
                      refine GT_st rfl rfl rfl rfl (V_index rfl rfl rfl Tryd.underlying28 sz_27 (k := b) rfl hbl (h.1.isSome hbl)) ?_
                      first | refine GT_st rfl rfl rfl rfl (V_field rfl rfl fo_27_0) ?_ | refine GT_st rfl rfl rfl rfl (V_fieldA rfl rfl fo_27_0) ?_
                      refine GT_st rfl rfl rfl rfl (V_load rfl rfl ag_9 (h.1.at0 noM hbl rfl)) ?_
                      refine GT_st rfl rfl rfl rfl (V_eqlStr rfl rfl rfl) ?_
                      refine GT_nil ?_
                      first | refine GE_condNot rfl (fun q8 => ?_) (fun q8 => ?_) | refine GE_cond rfl (fun q8 => ?_) (fun q8 => ?_) | refine GE_condNotB rfl (fun q8 => ?_) (fun q8 => ?_) | refine GE_condB rfl (fun q8 => ?_) (fun q8 => ?_)
                      · skip
                        refine GE_seq ?_
                        refine GE_slots (L' := []) trivial ?_
                        refine GE_plain (.st 0 .nil) rfl ?_
                        refine GT_st rfl rfl rfl rfl (V_assign rfl rfl) ?_
                        refine GT_nil ?_
                        refine GE_ret Tryd.func38 rfl (fun w hw => ⟨?_, hw.nil⟩)
                        rw [hlr, if_neg (names_same hal (by omega) q8)]
                      · skip
                        refine GE_skip ?_
                        refine GE_inBlock ?_
                        refine GE_slots (L' := [(0, _), (5, _), (6, _)]) ⟨rfl, rfl, rfl, trivial⟩ ?_
                        refine GE_plain (.st 0 (.st 1 (.ld 2 [] .nil))) rfl ?_
                        refine GT_st rfl rfl rfl rfl (V_move rfl rfl) ?_
                        refine GT_st rfl rfl rfl rfl (V_add rfl rfl rfl (wrap_i64 (by omega))) ?_
                        refine GT_ldv rfl rfl rfl rfl rfl (V_assign rfl rfl) (GR_nil) ?_
                        refine GT_nil ?_
                        exact GE_to (ih4 (b + 1) ⟨by omega, fun j hj => by rcases Nat.lt_or_ge j b with r | r; exact hbp j r; obtain rfl : j = b := (by omega); exact q8⟩ (by omega)) ⟨rfl, rfl, rfl, trivial⟩ HS.nil
                    · skip
                      refine GE_exit rfl ?_
                      refine GE_inBlock ?_
                      refine GE_slots (L' := [(0, _), (5, _)]) ⟨rfl, rfl, trivial⟩ ?_
                      refine GE_plain (.st 0 (.st 1 (.ld 2 [] .nil))) rfl ?_
                      refine GT_st rfl rfl rfl rfl (V_move rfl rfl) ?_
                      refine GT_st rfl rfl rfl rfl (V_add rfl rfl rfl (wrap_i64 (by omega))) ?_
                      refine GT_ldv rfl rfl rfl rfl rfl (V_assign rfl rfl) (GR_nil) ?_
                      refine GT_nil ?_
                      exact GE_to (ih3 (a + 1) ⟨by omega, fun i j hi hj => by rcases Nat.lt_or_ge i a with r | r; exact hap i j r hj; obtain rfl : i = a := (by omega); exact hbp j (by omega)⟩ (by omega)) ⟨rfl, rfl, trivial⟩ HS.nil
                  · exact ⟨Nat.zero_le _, fun j hi => absurd hi (Nat.not_lt_zero _)⟩
                · skip
                  refine GE_exit rfl ?_
                  refine GE_seq ?_
                  refine GE_slots (L' := []) trivial ?_
                  refine GE_plain (.st 0 .nil) rfl ?_
                  refine GT_st rfl rfl rfl rfl (V_assign rfl rfl) ?_
                  refine GT_nil ?_
                  refine GE_ret Tryd.func38 rfl (fun w hw => ⟨?_, hw.nil⟩)
                  rw [hlr, if_pos (names_apart (fun i j hi hj => hap i j (by omega) hj))]
              · exact ⟨Nat.zero_le _, fun i j hi => absurd hi (Nat.not_lt_zero _)⟩
          · exact ⟨Nat.zero_le _, fun i hi => absurd hi (Nat.not_lt_zero _)⟩
      · exact ⟨Nat.zero_le _, fun i hi => absurd hi (Nat.not_lt_zero _)⟩
set_option maxRecDepth 10000 in
theorem C_rpart {l : List Tk} {x : Prt} (h : Tks w A l) : Con0 Tryd.prog 52 [.slice A l.length c, .agg #[I x.tk, I x.fr, I x.to, I x.gap, I x.inn, I x.out, I x.lev]] w (.bool (goodP l x)) := by
  have hd : ∀ q : Bool, (((0 ≤ x.tk ∧ x.tk < (l.length : Int)) ∧ 0 ≤ x.fr ∧ x.fr < x.to ∧ x.to ≤ ((tkOf l x).data.length : Int) ∧ (-4096 ≤ x.gap ∧ x.gap ≤ 4096) ∧ (0 ≤ x.inn ∧ x.inn ≤ 1000) ∧ (0 ≤ x.out ∧ x.out ≤ 1000) ∧ (0 ≤ x.lev ∧ x.lev ≤ 4000)) ↔ q = true) → Value.bool q = Value.bool (goodP l x) := fun q hq => congrArg Value.bool (by rw [Bool.eq_iff_iff, ← hq, goodP]; simp only [Bool.and_eq_true, decide_eq_true_iff, betw_iff]; simp only [and_assoc])
  have dT : ∀ {q : Prop} [Decidable q], ∀ r : Prop, (r ↔ q) → (r ↔ decide q = true) := fun r e => by rw [decide_eq_true_iff]; exact e
  have dF : ∀ r : Prop, ¬ r → (r ↔ false = true) := fun r e => ⟨fun x => absurd x e, fun x => by cases x⟩
  have h1000 : ∀ {z : Int}, z = z := rfl
  refine Ret_of (vs := [_, _]) hm none' Tryd.func52 rfl Tryd.ntmps52 rfl ?_
  dsimp only [slotsOf]
  refine GE_seq ?_
  refine GE_plain (.ld 0 [] (.st 1 .nil)) rfl ?_
  refine GT_box (z := [_, _, _, _, _, _, _]) rfl rfl rfl rfl rfl rfl rfl (fun _ => GR_nil) (fun b3 => ?_)
  refine GT_st rfl rfl rfl rfl (V_assign rfl rfl) ?_
  refine GT_nil ?_
  refine GE_seq ?_
  refine GE_seq ?_
  refine GE_drawn (.st 0 (.st 1 (.st 2 (.st 3 (.st 4 (.st 5 (.st 6 (.st 7 (.st 8 (.st 9 (.st 10 (.st 11 (.st 12 (.st 13 (.st 14 (.st 15 (.st 16 (.st 17 (.st 18 (.st 19 (.st 20 (.st 21 (.st 22 (.st 23 (.st 24 (.st 25 (.st 26 (.st 27 (.st 28 (.st 29 (.st 30 (.st 31 (.st 32 (.st 33 (.st 34 (.st 35 (.st 36 (.st 37 (.st 38 (.st 39 (.st 40 (.st 41 (.st 42 (.st 43 .nil)))))))))))))))))))))))))))))))))))))))))))) [] (by decide +kernel) ?_
  first | refine GT_st rfl rfl rfl rfl (V_field rfl rfl fo_30_0) ?_ | refine GT_st rfl rfl rfl rfl (V_fieldA rfl rfl fo_30_0) ?_
  refine GT_st rfl rfl rfl rfl (V_load rfl rfl ag_3 (CellAt.item rfl)) ?_
  refine GT_st rfl rfl rfl rfl (V_lss rfl rfl rfl) ?_
  refine GT_st rfl rfl rfl rfl (V_move rfl rfl) ?_
  first | refine GT_splitNot (d := 8) rfl (fun q1 => ?_) (fun q1 => ?_) | refine GT_split (d := 8) rfl (fun q1 => ?_) (fun q1 => ?_) | refine GT_splitNotB (d := 8) rfl (fun q1 => ?_) (fun q1 => ?_) | refine GT_splitB (d := 8) rfl (fun q1 => ?_) (fun q1 => ?_)
  · skip
    refine GT_skip rfl rfl rfl rfl rfl (by decide) rfl rfl ?_
    refine GT_skip rfl rfl rfl rfl rfl (by decide) rfl rfl ?_
    refine GT_skip rfl rfl rfl rfl rfl (by decide) rfl rfl ?_
    refine GT_skip rfl rfl rfl rfl rfl (by decide) rfl rfl ?_
    refine GT_skip rfl rfl rfl rfl rfl (by decide) rfl rfl ?_
    refine GT_st rfl rfl rfl rfl (V_pick_t rfl rfl rfl) ?_
    refine GT_st rfl rfl rfl rfl (V_move rfl rfl) ?_
    refine GT_skip rfl rfl rfl rfl rfl (by decide) rfl rfl ?_
    refine GT_skip rfl rfl rfl rfl rfl (by decide) rfl rfl ?_
    refine GT_skip rfl rfl rfl rfl rfl (by decide) rfl rfl ?_
    refine GT_st rfl rfl rfl rfl (V_pick_t rfl rfl rfl) ?_
    refine GT_st rfl rfl rfl rfl (V_move rfl rfl) ?_
    refine GT_skip rfl rfl rfl rfl rfl (by decide) rfl rfl ?_
    refine GT_skip rfl rfl rfl rfl rfl (by decide) rfl rfl ?_
    refine GT_skip rfl rfl rfl rfl rfl (by decide) rfl rfl ?_
    refine GT_skip rfl rfl rfl rfl rfl (by decide) rfl rfl ?_
    refine GT_skip rfl rfl rfl rfl rfl (by decide) rfl rfl ?_
    refine GT_st rfl rfl rfl rfl (V_pick_t rfl rfl rfl) ?_
    refine GT_st rfl rfl rfl rfl (V_move rfl rfl) ?_
    refine GT_skip rfl rfl rfl rfl rfl (by decide) rfl rfl ?_
    refine GT_skip rfl rfl rfl rfl rfl (by decide) rfl rfl ?_
    refine GT_skip rfl rfl rfl rfl rfl (by decide) rfl rfl ?_
    refine GT_skip rfl rfl rfl rfl rfl (by decide) rfl rfl ?_
    refine GT_skip rfl rfl rfl rfl rfl (by decide) rfl rfl ?_
    refine GT_skip rfl rfl rfl rfl rfl (by decide) rfl rfl ?_
    refine GT_skip rfl rfl rfl rfl rfl (by decide) rfl rfl ?_
    refine GT_skip rfl rfl rfl rfl rfl (by decide) rfl rfl ?_
    refine GT_skip rfl rfl rfl rfl rfl (by decide) rfl rfl ?_
    refine GT_skip rfl rfl rfl rfl rfl (by decide) rfl rfl ?_
    refine GT_st rfl rfl rfl rfl (V_pick_t rfl rfl rfl) ?_
    refine GT_st rfl rfl rfl rfl (V_move rfl rfl) ?_
    refine GT_skip rfl rfl rfl rfl rfl (by decide) rfl rfl ?_
    refine GT_skip rfl rfl rfl rfl rfl (by decide) rfl rfl ?_
    refine GT_skip rfl rfl rfl rfl rfl (by decide) rfl rfl ?_
    refine GT_st rfl rfl rfl rfl (V_pick_t rfl rfl rfl) ?_
    refine GT_st rfl rfl rfl rfl (V_move rfl rfl) ?_
    refine GT_skip rfl rfl rfl rfl rfl (by decide) rfl rfl ?_
    refine GT_skip rfl rfl rfl rfl rfl (by decide) rfl rfl ?_
    refine GT_skip rfl rfl rfl rfl rfl (by decide) rfl rfl ?_
    refine GT_st rfl rfl rfl rfl (V_pick_t rfl rfl rfl) ?_
    refine GT_nil ?_
    refine GE_cond_t rfl ?_
    refine GE_seq ?_
    refine GE_slots (L' := []) trivial ?_
    refine GE_plain (.st 0 .nil) rfl ?_
    refine GT_st rfl rfl rfl rfl (V_assign rfl rfl) ?_
    refine GT_nil ?_
    refine GE_ret Tryd.func52 rfl (fun w hw => ⟨?_, hw.nil⟩)
    refine hd _ ?_; first | exact dF _ (fun e => by omega) | exact dF _ (fun e => by have := e.2.2.2.1; unfold tkOf at this; omega) | exact dT _ ⟨fun e => by omega, fun e => by refine ⟨⟨?_, ?_⟩, ?_, ?_, ?_, ⟨?_, ?_⟩, ⟨?_, ?_⟩, ⟨?_, ?_⟩, ?_, ?_⟩ <;> omega⟩
  · skip
    first | refine GT_st_g rfl rfl rfl rfl rfl rfl rfl (V_field rfl rfl fo_30_0) ?_ | refine GT_st_g rfl rfl rfl rfl rfl rfl rfl (V_fieldA rfl rfl fo_30_0) ?_
    refine GT_st_g rfl rfl rfl rfl rfl rfl rfl (V_load rfl rfl ag_3 (CellAt.item rfl)) ?_
    refine GT_st_g rfl rfl rfl rfl rfl rfl rfl (V_move rfl rfl) ?_
    refine GT_st_g rfl rfl rfl rfl rfl rfl rfl (V_len rfl Tryd.underlying28 rfl) ?_
    refine GT_st_g rfl rfl rfl rfl rfl rfl rfl (V_geq rfl rfl rfl) ?_
    refine GT_st rfl rfl rfl rfl (V_pick_f rfl rfl rfl) ?_
    refine GT_st rfl rfl rfl rfl (V_move rfl rfl) ?_
    first | refine GT_splitNot (d := 15) rfl (fun q2 => ?_) (fun q2 => ?_) | refine GT_split (d := 15) rfl (fun q2 => ?_) (fun q2 => ?_) | refine GT_splitNotB (d := 15) rfl (fun q2 => ?_) (fun q2 => ?_) | refine GT_splitB (d := 15) rfl (fun q2 => ?_) (fun q2 => ?_)
    · skip
      refine GT_skip rfl rfl rfl rfl rfl (by decide) rfl rfl ?_
      refine GT_skip rfl rfl rfl rfl rfl (by decide) rfl rfl ?_
      refine GT_skip rfl rfl rfl rfl rfl (by decide) rfl rfl ?_
      refine GT_st rfl rfl rfl rfl (V_pick_t rfl rfl rfl) ?_
      refine GT_st rfl rfl rfl rfl (V_move rfl rfl) ?_
      refine GT_skip rfl rfl rfl rfl rfl (by decide) rfl rfl ?_
      refine GT_skip rfl rfl rfl rfl rfl (by decide) rfl rfl ?_
      refine GT_skip rfl rfl rfl rfl rfl (by decide) rfl rfl ?_
      refine GT_skip rfl rfl rfl rfl rfl (by decide) rfl rfl ?_
      refine GT_skip rfl rfl rfl rfl rfl (by decide) rfl rfl ?_
      refine GT_st rfl rfl rfl rfl (V_pick_t rfl rfl rfl) ?_
      refine GT_st rfl rfl rfl rfl (V_move rfl rfl) ?_
      refine GT_skip rfl rfl rfl rfl rfl (by decide) rfl rfl ?_
      refine GT_skip rfl rfl rfl rfl rfl (by decide) rfl rfl ?_
      refine GT_skip rfl rfl rfl rfl rfl (by decide) rfl rfl ?_
      refine GT_skip rfl rfl rfl rfl rfl (by decide) rfl rfl ?_
      refine GT_skip rfl rfl rfl rfl rfl (by decide) rfl rfl ?_
      refine GT_skip rfl rfl rfl rfl rfl (by decide) rfl rfl ?_
      refine GT_skip rfl rfl rfl rfl rfl (by decide) rfl rfl ?_
      refine GT_skip rfl rfl rfl rfl rfl (by decide) rfl rfl ?_
      refine GT_skip rfl rfl rfl rfl rfl (by decide) rfl rfl ?_
      refine GT_skip rfl rfl rfl rfl rfl (by decide) rfl rfl ?_
      refine GT_st rfl rfl rfl rfl (V_pick_t rfl rfl rfl) ?_
      refine GT_st rfl rfl rfl rfl (V_move rfl rfl) ?_
      refine GT_skip rfl rfl rfl rfl rfl (by decide) rfl rfl ?_
      refine GT_skip rfl rfl rfl rfl rfl (by decide) rfl rfl ?_
      refine GT_skip rfl rfl rfl rfl rfl (by decide) rfl rfl ?_
      refine GT_st rfl rfl rfl rfl (V_pick_t rfl rfl rfl) ?_
      refine GT_st rfl rfl rfl rfl (V_move rfl rfl) ?_
      refine GT_skip rfl rfl rfl rfl rfl (by decide) rfl rfl ?_
      refine GT_skip rfl rfl rfl rfl rfl (by decide) rfl rfl ?_
      refine GT_skip rfl rfl rfl rfl rfl (by decide) rfl rfl ?_
      refine GT_st rfl rfl rfl rfl (V_pick_t rfl rfl rfl) ?_
      refine GT_nil ?_
      refine GE_cond_t rfl ?_
      refine GE_seq ?_
      refine GE_slots (L' := []) trivial ?_
      refine GE_plain (.st 0 .nil) rfl ?_
      refine GT_st rfl rfl rfl rfl (V_assign rfl rfl) ?_
      refine GT_nil ?_
      refine GE_ret Tryd.func52 rfl (fun w hw => ⟨?_, hw.nil⟩)
      refine hd _ ?_; first | exact dF _ (fun e => by omega) | exact dF _ (fun e => by have := e.2.2.2.1; unfold tkOf at this; omega) | exact dT _ ⟨fun e => by omega, fun e => by refine ⟨⟨?_, ?_⟩, ?_, ?_, ?_, ⟨?_, ?_⟩, ⟨?_, ?_⟩, ⟨?_, ?_⟩, ?_, ?_⟩ <;> omega⟩
    · skip
      first | refine GT_st_g rfl rfl rfl rfl rfl rfl rfl (V_field rfl rfl fo_30_1) ?_ | refine GT_st_g rfl rfl rfl rfl rfl rfl rfl (V_fieldA rfl rfl fo_30_1) ?_
      refine GT_st_g rfl rfl rfl rfl rfl rfl rfl (V_load rfl rfl ag_3 (CellAt.item rfl)) ?_
      refine GT_st_g rfl rfl rfl rfl rfl rfl rfl (V_lss rfl rfl rfl) ?_
      refine GT_st rfl rfl rfl rfl (V_pick_f rfl rfl rfl) ?_
      refine GT_st rfl rfl rfl rfl (V_move rfl rfl) ?_
      first | refine GT_splitNot (d := 20) rfl (fun q3 => ?_) (fun q3 => ?_) | refine GT_split (d := 20) rfl (fun q3 => ?_) (fun q3 => ?_) | refine GT_splitNotB (d := 20) rfl (fun q3 => ?_) (fun q3 => ?_) | refine GT_splitB (d := 20) rfl (fun q3 => ?_) (fun q3 => ?_)
      · skip
        refine GT_skip rfl rfl rfl rfl rfl (by decide) rfl rfl ?_
        refine GT_skip rfl rfl rfl rfl rfl (by decide) rfl rfl ?_
        refine GT_skip rfl rfl rfl rfl rfl (by decide) rfl rfl ?_
        refine GT_skip rfl rfl rfl rfl rfl (by decide) rfl rfl ?_
        refine GT_skip rfl rfl rfl rfl rfl (by decide) rfl rfl ?_
        refine GT_st rfl rfl rfl rfl (V_pick_t rfl rfl rfl) ?_
        refine GT_st rfl rfl rfl rfl (V_move rfl rfl) ?_
        refine GT_skip rfl rfl rfl rfl rfl (by decide) rfl rfl ?_
        refine GT_skip rfl rfl rfl rfl rfl (by decide) rfl rfl ?_
        refine GT_skip rfl rfl rfl rfl rfl (by decide) rfl rfl ?_
        refine GT_skip rfl rfl rfl rfl rfl (by decide) rfl rfl ?_
        refine GT_skip rfl rfl rfl rfl rfl (by decide) rfl rfl ?_
        refine GT_skip rfl rfl rfl rfl rfl (by decide) rfl rfl ?_
        refine GT_skip rfl rfl rfl rfl rfl (by decide) rfl rfl ?_
        refine GT_skip rfl rfl rfl rfl rfl (by decide) rfl rfl ?_
        refine GT_skip rfl rfl rfl rfl rfl (by decide) rfl rfl ?_
        refine GT_skip rfl rfl rfl rfl rfl (by decide) rfl rfl ?_
        refine GT_st rfl rfl rfl rfl (V_pick_t rfl rfl rfl) ?_
        refine GT_st rfl rfl rfl rfl (V_move rfl rfl) ?_
        refine GT_skip rfl rfl rfl rfl rfl (by decide) rfl rfl ?_
        refine GT_skip rfl rfl rfl rfl rfl (by decide) rfl rfl ?_
        refine GT_skip rfl rfl rfl rfl rfl (by decide) rfl rfl ?_
        refine GT_st rfl rfl rfl rfl (V_pick_t rfl rfl rfl) ?_
        refine GT_st rfl rfl rfl rfl (V_move rfl rfl) ?_
        refine GT_skip rfl rfl rfl rfl rfl (by decide) rfl rfl ?_
        refine GT_skip rfl rfl rfl rfl rfl (by decide) rfl rfl ?_
        refine GT_skip rfl rfl rfl rfl rfl (by decide) rfl rfl ?_
        refine GT_st rfl rfl rfl rfl (V_pick_t rfl rfl rfl) ?_
        refine GT_nil ?_
        refine GE_cond_t rfl ?_
        refine GE_seq ?_
        refine GE_slots (L' := []) trivial ?_
        refine GE_plain (.st 0 .nil) rfl ?_
        refine GT_st rfl rfl rfl rfl (V_assign rfl rfl) ?_
        refine GT_nil ?_
        refine GE_ret Tryd.func52 rfl (fun w hw => ⟨?_, hw.nil⟩)
        refine hd _ ?_; first | exact dF _ (fun e => by omega) | exact dF _ (fun e => by have := e.2.2.2.1; unfold tkOf at this; omega) | exact dT _ ⟨fun e => by omega, fun e => by refine ⟨⟨?_, ?_⟩, ?_, ?_, ?_, ⟨?_, ?_⟩, ⟨?_, ?_⟩, ⟨?_, ?_⟩, ?_, ?_⟩ <;> omega⟩
      · skip
        first | refine GT_st_g rfl rfl rfl rfl rfl rfl rfl (V_field rfl rfl fo_30_1) ?_ | refine GT_st_g rfl rfl rfl rfl rfl rfl rfl (V_fieldA rfl rfl fo_30_1) ?_
        refine GT_st_g rfl rfl rfl rfl rfl rfl rfl (V_load rfl rfl ag_3 (CellAt.item rfl)) ?_
        first | refine GT_st_g rfl rfl rfl rfl rfl rfl rfl (V_field rfl rfl fo_30_2) ?_ | refine GT_st_g rfl rfl rfl rfl rfl rfl rfl (V_fieldA rfl rfl fo_30_2) ?_
        refine GT_st_g rfl rfl rfl rfl rfl rfl rfl (V_load rfl rfl ag_3 (CellAt.item rfl)) ?_
        refine GT_st_g rfl rfl rfl rfl rfl rfl rfl (V_geq rfl rfl rfl) ?_
        refine GT_st rfl rfl rfl rfl (V_pick_f rfl rfl rfl) ?_
        refine GT_st rfl rfl rfl rfl (V_move rfl rfl) ?_
        first | refine GT_splitNot (d := 27) rfl (fun q4 => ?_) (fun q4 => ?_) | refine GT_split (d := 27) rfl (fun q4 => ?_) (fun q4 => ?_) | refine GT_splitNotB (d := 27) rfl (fun q4 => ?_) (fun q4 => ?_) | refine GT_splitB (d := 27) rfl (fun q4 => ?_) (fun q4 => ?_)
        · skip
          refine GT_skip rfl rfl rfl rfl rfl (by decide) rfl rfl ?_
          refine GT_skip rfl rfl rfl rfl rfl (by decide) rfl rfl ?_
          refine GT_skip rfl rfl rfl rfl rfl (by decide) rfl rfl ?_
          refine GT_skip rfl rfl rfl rfl rfl (by decide) rfl rfl ?_
          refine GT_skip rfl rfl rfl rfl rfl (by decide) rfl rfl ?_
          refine GT_skip rfl rfl rfl rfl rfl (by decide) rfl rfl ?_
          refine GT_skip rfl rfl rfl rfl rfl (by decide) rfl rfl ?_
          refine GT_skip rfl rfl rfl rfl rfl (by decide) rfl rfl ?_
          refine GT_skip rfl rfl rfl rfl rfl (by decide) rfl rfl ?_
          refine GT_skip rfl rfl rfl rfl rfl (by decide) rfl rfl ?_
          refine GT_st rfl rfl rfl rfl (V_pick_t rfl rfl rfl) ?_
          refine GT_st rfl rfl rfl rfl (V_move rfl rfl) ?_
          refine GT_skip rfl rfl rfl rfl rfl (by decide) rfl rfl ?_
          refine GT_skip rfl rfl rfl rfl rfl (by decide) rfl rfl ?_
          refine GT_skip rfl rfl rfl rfl rfl (by decide) rfl rfl ?_
          refine GT_st rfl rfl rfl rfl (V_pick_t rfl rfl rfl) ?_
          refine GT_st rfl rfl rfl rfl (V_move rfl rfl) ?_
          refine GT_skip rfl rfl rfl rfl rfl (by decide) rfl rfl ?_
          refine GT_skip rfl rfl rfl rfl rfl (by decide) rfl rfl ?_
          refine GT_skip rfl rfl rfl rfl rfl (by decide) rfl rfl ?_
          refine GT_st rfl rfl rfl rfl (V_pick_t rfl rfl rfl) ?_
          refine GT_nil ?_
          refine GE_cond_t rfl ?_
          refine GE_seq ?_
          refine GE_slots (L' := []) trivial ?_
          refine GE_plain (.st 0 .nil) rfl ?_
          refine GT_st rfl rfl rfl rfl (V_assign rfl rfl) ?_
          refine GT_nil ?_
          refine GE_ret Tryd.func52 rfl (fun w hw => ⟨?_, hw.nil⟩)
          refine hd _ ?_; first | exact dF _ (fun e => by omega) | exact dF _ (fun e => by have := e.2.2.2.1; unfold tkOf at this; omega) | exact dT _ ⟨fun e => by omega, fun e => by refine ⟨⟨?_, ?_⟩, ?_, ?_, ?_, ⟨?_, ?_⟩, ⟨?_, ?_⟩, ⟨?_, ?_⟩, ?_, ?_⟩ <;> omega⟩
        · have hk : x.tk.toNat < l.length := (by omega)
          first | refine GT_st_g rfl rfl rfl rfl rfl rfl rfl (V_field rfl rfl fo_30_2) ?_ | refine GT_st_g rfl rfl rfl rfl rfl rfl rfl (V_fieldA rfl rfl fo_30_2) ?_
          refine GT_st_g rfl rfl rfl rfl rfl rfl rfl (V_load rfl rfl ag_3 (CellAt.item rfl)) ?_
          refine GT_st_g rfl rfl rfl rfl rfl rfl rfl (V_move rfl rfl) ?_
          first | refine GT_st_g rfl rfl rfl rfl rfl rfl rfl (V_field rfl rfl fo_30_0) ?_ | refine GT_st_g rfl rfl rfl rfl rfl rfl rfl (V_fieldA rfl rfl fo_30_0) ?_
          refine GT_st_g rfl rfl rfl rfl rfl rfl rfl (V_load rfl rfl ag_3 (CellAt.item rfl)) ?_
          refine GT_st_g rfl rfl rfl rfl rfl rfl rfl (V_index rfl rfl rfl Tryd.underlying28 sz_27 (k := x.tk.toNat) (by omega) hk (h.1.isSome hk)) ?_
          first | refine GT_st_g rfl rfl rfl rfl rfl rfl rfl (V_field rfl rfl fo_27_1) ?_ | refine GT_st_g rfl rfl rfl rfl rfl rfl rfl (V_fieldA rfl rfl fo_27_1) ?_
          refine GT_st_g rfl rfl rfl rfl rfl rfl rfl (V_load rfl rfl ag_22 (h.1.at1 noM hk rfl)) ?_
          refine GT_st_g rfl rfl rfl rfl rfl rfl rfl (V_len rfl Tryd.underlying22 rfl) ?_
          refine GT_st_g rfl rfl rfl rfl rfl rfl rfl (V_gtr rfl rfl rfl) ?_
          refine GT_st rfl rfl rfl rfl (V_pick_f rfl rfl rfl) ?_
          refine GT_st rfl rfl rfl rfl (V_move rfl rfl) ?_
          first | refine GT_splitNot (d := 39) rfl (fun q5 => ?_) (fun q5 => ?_) | refine GT_split (d := 39) rfl (fun q5 => ?_) (fun q5 => ?_) | refine GT_splitNotB (d := 39) rfl (fun q5 => ?_) (fun q5 => ?_) | refine GT_splitB (d := 39) rfl (fun q5 => ?_) (fun q5 => ?_)
          · skip
            refine GT_skip rfl rfl rfl rfl rfl (by decide) rfl rfl ?_
            refine GT_skip rfl rfl rfl rfl rfl (by decide) rfl rfl ?_
            refine GT_skip rfl rfl rfl rfl rfl (by decide) rfl rfl ?_
            refine GT_st rfl rfl rfl rfl (V_pick_t rfl rfl rfl) ?_
            refine GT_st rfl rfl rfl rfl (V_move rfl rfl) ?_
            refine GT_skip rfl rfl rfl rfl rfl (by decide) rfl rfl ?_
            refine GT_skip rfl rfl rfl rfl rfl (by decide) rfl rfl ?_
            refine GT_skip rfl rfl rfl rfl rfl (by decide) rfl rfl ?_
            refine GT_st rfl rfl rfl rfl (V_pick_t rfl rfl rfl) ?_
            refine GT_nil ?_
            refine GE_cond_t rfl ?_
            refine GE_seq ?_
            refine GE_slots (L' := []) trivial ?_
            refine GE_plain (.st 0 .nil) rfl ?_
            refine GT_st rfl rfl rfl rfl (V_assign rfl rfl) ?_
            refine GT_nil ?_
            refine GE_ret Tryd.func52 rfl (fun w hw => ⟨?_, hw.nil⟩)
            refine hd _ ?_; first | exact dF _ (fun e => by omega) | exact dF _ (fun e => by have := e.2.2.2.1; unfold tkOf at this; omega) | exact dT _ ⟨fun e => by omega, fun e => by refine ⟨⟨?_, ?_⟩, ?_, ?_, ?_, ⟨?_, ?_⟩, ⟨?_, ?_⟩, ⟨?_, ?_⟩, ?_, ?_⟩ <;> omega⟩
          · skip
            first | refine GT_st_g rfl rfl rfl rfl rfl rfl rfl (V_field rfl rfl fo_30_3) ?_ | refine GT_st_g rfl rfl rfl rfl rfl rfl rfl (V_fieldA rfl rfl fo_30_3) ?_
            refine GT_st_g rfl rfl rfl rfl rfl rfl rfl (V_load rfl rfl ag_3 (CellAt.item rfl)) ?_
            refine GT_st_g rfl rfl rfl rfl rfl rfl rfl (V_lss rfl rfl rfl) ?_
            refine GT_st rfl rfl rfl rfl (V_pick_f rfl rfl rfl) ?_
            refine GT_st rfl rfl rfl rfl (V_move rfl rfl) ?_
            first | refine GT_splitNot (d := 44) rfl (fun q6 => ?_) (fun q6 => ?_) | refine GT_split (d := 44) rfl (fun q6 => ?_) (fun q6 => ?_) | refine GT_splitNotB (d := 44) rfl (fun q6 => ?_) (fun q6 => ?_) | refine GT_splitB (d := 44) rfl (fun q6 => ?_) (fun q6 => ?_)
            · skip
              refine GT_skip rfl rfl rfl rfl rfl (by decide) rfl rfl ?_
              refine GT_skip rfl rfl rfl rfl rfl (by decide) rfl rfl ?_
              refine GT_skip rfl rfl rfl rfl rfl (by decide) rfl rfl ?_
              refine GT_st rfl rfl rfl rfl (V_pick_t rfl rfl rfl) ?_
              refine GT_nil ?_
              refine GE_cond_t rfl ?_
              refine GE_seq ?_
              refine GE_slots (L' := []) trivial ?_
              refine GE_plain (.st 0 .nil) rfl ?_
              refine GT_st rfl rfl rfl rfl (V_assign rfl rfl) ?_
              refine GT_nil ?_
              refine GE_ret Tryd.func52 rfl (fun w hw => ⟨?_, hw.nil⟩)
              refine hd _ ?_; first | exact dF _ (fun e => by omega) | exact dF _ (fun e => by have := e.2.2.2.1; unfold tkOf at this; omega) | exact dT _ ⟨fun e => by omega, fun e => by refine ⟨⟨?_, ?_⟩, ?_, ?_, ?_, ⟨?_, ?_⟩, ⟨?_, ?_⟩, ⟨?_, ?_⟩, ?_, ?_⟩ <;> omega⟩
            · skip
              first | refine GT_st_g rfl rfl rfl rfl rfl rfl rfl (V_field rfl rfl fo_30_3) ?_ | refine GT_st_g rfl rfl rfl rfl rfl rfl rfl (V_fieldA rfl rfl fo_30_3) ?_
              refine GT_st_g rfl rfl rfl rfl rfl rfl rfl (V_load rfl rfl ag_3 (CellAt.item rfl)) ?_
              refine GT_st_g rfl rfl rfl rfl rfl rfl rfl (V_gtr rfl rfl rfl) ?_
              refine GT_st rfl rfl rfl rfl (V_pick_f rfl rfl rfl) ?_
              refine GT_nil ?_
              first | refine GE_condNot rfl (fun q7 => ?_) (fun q7 => ?_) | refine GE_cond rfl (fun q7 => ?_) (fun q7 => ?_) | refine GE_condNotB rfl (fun q7 => ?_) (fun q7 => ?_) | refine GE_condB rfl (fun q7 => ?_) (fun q7 => ?_)
              · skip
                refine GE_seq ?_
                refine GE_slots (L' := []) trivial ?_
                refine GE_plain (.st 0 .nil) rfl ?_
                refine GT_st rfl rfl rfl rfl (V_assign rfl rfl) ?_
                refine GT_nil ?_
                refine GE_ret Tryd.func52 rfl (fun w hw => ⟨?_, hw.nil⟩)
                refine hd _ ?_; first | exact dF _ (fun e => by omega) | exact dF _ (fun e => by have := e.2.2.2.1; unfold tkOf at this; omega) | exact dT _ ⟨fun e => by omega, fun e => by refine ⟨⟨?_, ?_⟩, ?_, ?_, ?_, ⟨?_, ?_⟩, ⟨?_, ?_⟩, ⟨?_, ?_⟩, ?_, ?_⟩ <;> omega⟩
              · have htk : x.to ≤ ((tkOf l x).data.length : Int) := (by unfold tkOf; omega)
                refine GE_skip ?_
                refine GE_seq ?_
                refine GE_slots (L' := [(3, _)]) ⟨rfl, trivial⟩ ?_
                refine GE_plain (.st 0 (.st 1 (.st 2 (.st 3 (.st 4 (.st 5 (.st 6 (.st 7 (.st 8 (.st 9 (.st 10 (.st 11 (.st 12 (.st 13 (.st 14 (.st 15 (.st 16 (.st 17 (.st 18 (.st 19 (.st 20 (.st 21 (.st 22 (.st 23 (.st 24 (.st 25 (.st 26 (.st 27 (.st 28 .nil))))))))))))))))))))))))))))) rfl ?_
                first | refine GT_st rfl rfl rfl rfl (V_field rfl rfl fo_30_4) ?_ | refine GT_st rfl rfl rfl rfl (V_fieldA rfl rfl fo_30_4) ?_
                refine GT_st rfl rfl rfl rfl (V_load rfl rfl ag_3 (CellAt.item rfl)) ?_
                refine GT_st rfl rfl rfl rfl (V_geq rfl rfl rfl) ?_
                refine GT_st rfl rfl rfl rfl (V_move rfl rfl) ?_
                first | refine GT_splitNot (d := 52) rfl (fun q8 => ?_) (fun q8 => ?_) | refine GT_split (d := 52) rfl (fun q8 => ?_) (fun q8 => ?_) | refine GT_splitNotB (d := 52) rfl (fun q8 => ?_) (fun q8 => ?_) | refine GT_splitB (d := 52) rfl (fun q8 => ?_) (fun q8 => ?_)
                · skip
                  first | refine GT_st_g rfl rfl rfl rfl rfl rfl rfl (V_field rfl rfl fo_30_4) ?_ | refine GT_st_g rfl rfl rfl rfl rfl rfl rfl (V_fieldA rfl rfl fo_30_4) ?_
                  refine GT_st_g rfl rfl rfl rfl rfl rfl rfl (V_load rfl rfl ag_3 (CellAt.item rfl)) ?_
                  refine GT_st_g rfl rfl rfl rfl rfl rfl rfl (V_leq rfl rfl rfl) ?_
                  refine GT_st rfl rfl rfl rfl (V_pick_t rfl rfl rfl) ?_
                  refine GT_st rfl rfl rfl rfl (V_move rfl rfl) ?_
                  first | refine GT_splitNot (d := 57) rfl (fun q9 => ?_) (fun q9 => ?_) | refine GT_split (d := 57) rfl (fun q9 => ?_) (fun q9 => ?_) | refine GT_splitNotB (d := 57) rfl (fun q9 => ?_) (fun q9 => ?_) | refine GT_splitB (d := 57) rfl (fun q9 => ?_) (fun q9 => ?_)
                  · skip
                    first | refine GT_st_g rfl rfl rfl rfl rfl rfl rfl (V_field rfl rfl fo_30_5) ?_ | refine GT_st_g rfl rfl rfl rfl rfl rfl rfl (V_fieldA rfl rfl fo_30_5) ?_
                    refine GT_st_g rfl rfl rfl rfl rfl rfl rfl (V_load rfl rfl ag_3 (CellAt.item rfl)) ?_
                    refine GT_st_g rfl rfl rfl rfl rfl rfl rfl (V_geq rfl rfl rfl) ?_
                    refine GT_st rfl rfl rfl rfl (V_pick_t rfl rfl rfl) ?_
                    refine GT_st rfl rfl rfl rfl (V_move rfl rfl) ?_
                    first | refine GT_splitNot (d := 62) rfl (fun q10 => ?_) (fun q10 => ?_) | refine GT_split (d := 62) rfl (fun q10 => ?_) (fun q10 => ?_) | refine GT_splitNotB (d := 62) rfl (fun q10 => ?_) (fun q10 => ?_) | refine GT_splitB (d := 62) rfl (fun q10 => ?_) (fun q10 => ?_)
                    · skip
                      first | refine GT_st_g rfl rfl rfl rfl rfl rfl rfl (V_field rfl rfl fo_30_5) ?_ | refine GT_st_g rfl rfl rfl rfl rfl rfl rfl (V_fieldA rfl rfl fo_30_5) ?_
                      refine GT_st_g rfl rfl rfl rfl rfl rfl rfl (V_load rfl rfl ag_3 (CellAt.item rfl)) ?_
                      refine GT_st_g rfl rfl rfl rfl rfl rfl rfl (V_leq rfl rfl rfl) ?_
                      refine GT_st rfl rfl rfl rfl (V_pick_t rfl rfl rfl) ?_
                      refine GT_st rfl rfl rfl rfl (V_move rfl rfl) ?_
                      first | refine GT_splitNot (d := 67) rfl (fun q11 => ?_) (fun q11 => ?_) | refine GT_split (d := 67) rfl (fun q11 => ?_) (fun q11 => ?_) | refine GT_splitNotB (d := 67) rfl (fun q11 => ?_) (fun q11 => ?_) | refine GT_splitB (d := 67) rfl (fun q11 => ?_) (fun q11 => ?_)
                      · skip
                        first | refine GT_st_g rfl rfl rfl rfl rfl rfl rfl (V_field rfl rfl fo_30_6) ?_ | refine GT_st_g rfl rfl rfl rfl rfl rfl rfl (V_fieldA rfl rfl fo_30_6) ?_
                        refine GT_st_g rfl rfl rfl rfl rfl rfl rfl (V_load rfl rfl ag_2 (CellAt.item rfl)) ?_
                        refine GT_st_g rfl rfl rfl rfl rfl rfl rfl (V_geq rfl rfl rfl) ?_
                        refine GT_st rfl rfl rfl rfl (V_pick_t rfl rfl rfl) ?_
                        refine GT_st rfl rfl rfl rfl (V_move rfl rfl) ?_
                        first | refine GT_splitNot (d := 72) rfl (fun q12 => ?_) (fun q12 => ?_) | refine GT_split (d := 72) rfl (fun q12 => ?_) (fun q12 => ?_) | refine GT_splitNotB (d := 72) rfl (fun q12 => ?_) (fun q12 => ?_) | refine GT_splitB (d := 72) rfl (fun q12 => ?_) (fun q12 => ?_)
                        · skip
                          first | refine GT_st_g rfl rfl rfl rfl rfl rfl rfl (V_field rfl rfl fo_30_6) ?_ | refine GT_st_g rfl rfl rfl rfl rfl rfl rfl (V_fieldA rfl rfl fo_30_6) ?_
                          refine GT_st_g rfl rfl rfl rfl rfl rfl rfl (V_load rfl rfl ag_2 (CellAt.item rfl)) ?_
                          refine GT_st_g rfl rfl rfl rfl rfl rfl rfl (V_leq rfl rfl rfl) ?_
                          refine GT_st rfl rfl rfl rfl (V_pick_t rfl rfl rfl) ?_
                          refine GT_st rfl rfl rfl rfl (V_assign rfl rfl) ?_
                          refine GT_nil ?_
                          refine GE_ret Tryd.func52 rfl (fun w hw => ⟨?_, hw.nil⟩)
                          refine hd _ ?_; first | exact dF _ (fun e => by omega) | exact dF _ (fun e => by have := e.2.2.2.1; unfold tkOf at this; omega) | exact dT _ ⟨fun e => by omega, fun e => by refine ⟨⟨?_, ?_⟩, ?_, ?_, ?_, ⟨?_, ?_⟩, ⟨?_, ?_⟩, ⟨?_, ?_⟩, ?_, ?_⟩ <;> omega⟩
                        · skip
                          refine GT_skip rfl rfl rfl rfl rfl (by decide) rfl rfl ?_
                          refine GT_skip rfl rfl rfl rfl rfl (by decide) rfl rfl ?_
                          refine GT_skip rfl rfl rfl rfl rfl (by decide) rfl rfl ?_
                          refine GT_st rfl rfl rfl rfl (V_pick_f rfl rfl rfl) ?_
                          refine GT_st rfl rfl rfl rfl (V_assign rfl rfl) ?_
                          refine GT_nil ?_
                          refine GE_ret Tryd.func52 rfl (fun w hw => ⟨?_, hw.nil⟩)
                          refine hd _ ?_; first | exact dF _ (fun e => by omega) | exact dF _ (fun e => by have := e.2.2.2.1; unfold tkOf at this; omega) | exact dT _ ⟨fun e => by omega, fun e => by refine ⟨⟨?_, ?_⟩, ?_, ?_, ?_, ⟨?_, ?_⟩, ⟨?_, ?_⟩, ⟨?_, ?_⟩, ?_, ?_⟩ <;> omega⟩
                      · skip
                        refine GT_skip rfl rfl rfl rfl rfl (by decide) rfl rfl ?_
                        refine GT_skip rfl rfl rfl rfl rfl (by decide) rfl rfl ?_
                        refine GT_skip rfl rfl rfl rfl rfl (by decide) rfl rfl ?_
                        refine GT_st rfl rfl rfl rfl (V_pick_f rfl rfl rfl) ?_
                        refine GT_st rfl rfl rfl rfl (V_move rfl rfl) ?_
                        refine GT_skip rfl rfl rfl rfl rfl (by decide) rfl rfl ?_
                        refine GT_skip rfl rfl rfl rfl rfl (by decide) rfl rfl ?_
                        refine GT_skip rfl rfl rfl rfl rfl (by decide) rfl rfl ?_
                        refine GT_st rfl rfl rfl rfl (V_pick_f rfl rfl rfl) ?_
                        refine GT_st rfl rfl rfl rfl (V_assign rfl rfl) ?_
                        refine GT_nil ?_
                        refine GE_ret Tryd.func52 rfl (fun w hw => ⟨?_, hw.nil⟩)
                        refine hd _ ?_; first | exact dF _ (fun e => by omega) | exact dF _ (fun e => by have := e.2.2.2.1; unfold tkOf at this; omega) | exact dT _ ⟨fun e => by omega, fun e => by refine ⟨⟨?_, ?_⟩, ?_, ?_, ?_, ⟨?_, ?_⟩, ⟨?_, ?_⟩, ⟨?_, ?_⟩, ?_, ?_⟩ <;> omega⟩
                    · skip
                      refine GT_skip rfl rfl rfl rfl rfl (by decide) rfl rfl ?_
                      refine GT_skip rfl rfl rfl rfl rfl (by decide) rfl rfl ?_
                      refine GT_skip rfl rfl rfl rfl rfl (by decide) rfl rfl ?_
                      refine GT_st rfl rfl rfl rfl (V_pick_f rfl rfl rfl) ?_
                      refine GT_st rfl rfl rfl rfl (V_move rfl rfl) ?_
                      refine GT_skip rfl rfl rfl rfl rfl (by decide) rfl rfl ?_
                      refine GT_skip rfl rfl rfl rfl rfl (by decide) rfl rfl ?_
                      refine GT_skip rfl rfl rfl rfl rfl (by decide) rfl rfl ?_
                      refine GT_st rfl rfl rfl rfl (V_pick_f rfl rfl rfl) ?_
                      refine GT_st rfl rfl rfl rfl (V_move rfl rfl) ?_
                      refine GT_skip rfl rfl rfl rfl rfl (by decide) rfl rfl ?_
                      refine GT_skip rfl rfl rfl rfl rfl (by decide) rfl rfl ?_
                      refine GT_skip rfl rfl rfl rfl rfl (by decide) rfl rfl ?_
                      refine GT_st rfl rfl rfl rfl (V_pick_f rfl rfl rfl) ?_
                      refine GT_st rfl rfl rfl rfl (V_assign rfl rfl) ?_
                      refine GT_nil ?_
                      refine GE_ret Tryd.func52 rfl (fun w hw => ⟨?_, hw.nil⟩)
                      refine hd _ ?_; first | exact dF _ (fun e => by omega) | exact dF _ (fun e => by have := e.2.2.2.1; unfold tkOf at this; omega) | exact dT _ ⟨fun e => by omega, fun e => by refine ⟨⟨?_, ?_⟩, ?_, ?_, ?_, ⟨?_, ?_⟩, ⟨?_, ?_⟩, ⟨?_, ?_⟩, ?_, ?_⟩ <;> omega⟩
                  · skip
                    refine GT_skip rfl rfl rfl rfl rfl (by decide) rfl rfl ?_
                    refine GT_skip rfl rfl rfl rfl rfl (by decide) rfl rfl ?_
                    refine GT_skip rfl rfl rfl rfl rfl (by decide) rfl rfl ?_
                    refine GT_st rfl rfl rfl rfl (V_pick_f rfl rfl rfl) ?_
                    refine GT_st rfl rfl rfl rfl (V_move rfl rfl) ?_
                    refine GT_skip rfl rfl rfl rfl rfl (by decide) rfl rfl ?_
                    refine GT_skip rfl rfl rfl rfl rfl (by decide) rfl rfl ?_
                    refine GT_skip rfl rfl rfl rfl rfl (by decide) rfl rfl ?_
                    refine GT_st rfl rfl rfl rfl (V_pick_f rfl rfl rfl) ?_
                    refine GT_st rfl rfl rfl rfl (V_move rfl rfl) ?_
                    refine GT_skip rfl rfl rfl rfl rfl (by decide) rfl rfl ?_
                    refine GT_skip rfl rfl rfl rfl rfl (by decide) rfl rfl ?_
                    refine GT_skip rfl rfl rfl rfl rfl (by decide) rfl rfl ?_
                    refine GT_st rfl rfl rfl rfl (V_pick_f rfl rfl rfl) ?_
                    refine GT_st rfl rfl rfl rfl (V_move rfl rfl) ?_
                    refine GT_skip rfl rfl rfl rfl rfl (by decide) rfl rfl ?_
                    refine GT_skip rfl rfl rfl rfl rfl (by decide) rfl rfl ?_
                    refine GT_skip rfl rfl rfl rfl rfl (by decide) rfl rfl ?_
                    refine GT_st rfl rfl rfl rfl (V_pick_f rfl rfl rfl) ?_
                    refine GT_st rfl rfl rfl rfl (V_assign rfl rfl) ?_
                    refine GT_nil ?_
                    refine GE_ret Tryd.func52 rfl (fun w hw => ⟨?_, hw.nil⟩)
                    refine hd _ ?_; first | exact dF _ (fun e => by omega) | exact dF _ (fun e => by have := e.2.2.2.1; unfold tkOf at this; omega) | exact dT _ ⟨fun e => by omega, fun e => by refine ⟨⟨?_, ?_⟩, ?_, ?_, ?_, ⟨?_, ?_⟩, ⟨?_, ?_⟩, ⟨?_, ?_⟩, ?_, ?_⟩ <;> omega⟩
                · skip
                  refine GT_skip rfl rfl rfl rfl rfl (by decide) rfl rfl ?_
                  refine GT_skip rfl rfl rfl rfl rfl (by decide) rfl rfl ?_
                  refine GT_skip rfl rfl rfl rfl rfl (by decide) rfl rfl ?_
                  refine GT_st rfl rfl rfl rfl (V_pick_f rfl rfl rfl) ?_
                  refine GT_st rfl rfl rfl rfl (V_move rfl rfl) ?_
                  refine GT_skip rfl rfl rfl rfl rfl (by decide) rfl rfl ?_
                  refine GT_skip rfl rfl rfl rfl rfl (by decide) rfl rfl ?_
                  refine GT_skip rfl rfl rfl rfl rfl (by decide) rfl rfl ?_
                  refine GT_st rfl rfl rfl rfl (V_pick_f rfl rfl rfl) ?_
                  refine GT_st rfl rfl rfl rfl (V_move rfl rfl) ?_
                  refine GT_skip rfl rfl rfl rfl rfl (by decide) rfl rfl ?_
                  refine GT_skip rfl rfl rfl rfl rfl (by decide) rfl rfl ?_
                  refine GT_skip rfl rfl rfl rfl rfl (by decide) rfl rfl ?_
                  refine GT_st rfl rfl rfl rfl (V_pick_f rfl rfl rfl) ?_
                  refine GT_st rfl rfl rfl rfl (V_move rfl rfl) ?_
                  refine GT_skip rfl rfl rfl rfl rfl (by decide) rfl rfl ?_
                  refine GT_skip rfl rfl rfl rfl rfl (by decide) rfl rfl ?_
                  refine GT_skip rfl rfl rfl rfl rfl (by decide) rfl rfl ?_
                  refine GT_st rfl rfl rfl rfl (V_pick_f rfl rfl rfl) ?_
                  refine GT_st rfl rfl rfl rfl (V_move rfl rfl) ?_
                  refine GT_skip rfl rfl rfl rfl rfl (by decide) rfl rfl ?_
                  refine GT_skip rfl rfl rfl rfl rfl (by decide) rfl rfl ?_
                  refine GT_skip rfl rfl rfl rfl rfl (by decide) rfl rfl ?_
                  refine GT_st rfl rfl rfl rfl (V_pick_f rfl rfl rfl) ?_
                  refine GT_st rfl rfl rfl rfl (V_assign rfl rfl) ?_
                  refine GT_nil ?_
                  refine GE_ret Tryd.func52 rfl (fun w hw => ⟨?_, hw.nil⟩)
                  refine hd _ ?_; first | exact dF _ (fun e => by omega) | exact dF _ (fun e => by have := e.2.2.2.1; unfold tkOf at this; omega) | exact dT _ ⟨fun e => by omega, fun e => by refine ⟨⟨?_, ?_⟩, ?_, ?_, ?_, ⟨?_, ?_⟩, ⟨?_, ?_⟩, ⟨?_, ?_⟩, ?_, ?_⟩ <;> omega⟩
theorem C_rLong {x : Prt} (h : -4000000000000 ≤ lng x ∧ lng x ≤ 4000000000000) : Con0 Tryd.prog 56 [.agg #[I x.tk, I x.fr, I x.to, I x.gap, I x.inn, I x.out, I x.lev]] w (I (lng x)) := by
  unfold lng at h ⊢
  refine Ret_of (vs := [_]) hm none' Tryd.func56 rfl Tryd.ntmps56 rfl ?_
  dsimp only [slotsOf]
  refine GE_seq ?_
  refine GE_plain (.ld 0 [] (.st 1 .nil)) rfl ?_
  refine GT_box (z := [_, _, _, _, _, _, _]) rfl rfl rfl rfl rfl rfl rfl (fun _ => GR_nil) (fun b1 => ?_)
  refine GT_st rfl rfl rfl rfl (V_assign rfl rfl) ?_
  refine GT_nil ?_
  refine GE_seq ?_
  refine GE_plain (.st 0 (.st 1 (.st 2 (.st 3 (.st 4 (.st 5 .nil)))))) rfl ?_
  first | refine GT_st rfl rfl rfl rfl (V_field rfl rfl fo_30_2) ?_ | refine GT_st rfl rfl rfl rfl (V_fieldA rfl rfl fo_30_2) ?_
  refine GT_st rfl rfl rfl rfl (V_load rfl rfl ag_3 (CellAt.item rfl)) ?_
  first | refine GT_st rfl rfl rfl rfl (V_field rfl rfl fo_30_1) ?_ | refine GT_st rfl rfl rfl rfl (V_fieldA rfl rfl fo_30_1) ?_
  refine GT_st rfl rfl rfl rfl (V_load rfl rfl ag_3 (CellAt.item rfl)) ?_
  refine GT_st rfl rfl rfl rfl (V_sub rfl rfl rfl (wrap_i64 (by omega))) ?_
  refine GT_st rfl rfl rfl rfl (V_assign rfl rfl) ?_
  refine GT_nil ?_
  refine GE_ret Tryd.func56 rfl (fun w hw => ⟨?_, hw.nil⟩)
  rfl
variable {l : List Tk} {p : List Prt}
theorem C_rstarts (hg : Gd l p) (hp : RdL w 7 ePrt A2 p) : Con Tryd.prog 59 [.slice A2 p.length c2] w (fun y : Option Addr × Nat × Items => Own 1 3 eI (bgns p p.length) (.slice y.1 p.length y.2.1) y.2.2)
    (fun y => .tuple #[.slice y.1 p.length y.2.1, I (fin p)]) (fun y => y.2.2) := by
  refine Ret_of (vs := [_]) hm none' Tryd.func59 rfl Tryd.ntmps59 rfl ?_
  dsimp only [slotsOf]
  refine GE_seq ?_
  refine GE_plain (.st 0 (.st 1 .nil)) rfl ?_
  refine GT_st rfl rfl rfl rfl (V_assign rfl rfl) ?_
  refine GT_st rfl rfl rfl rfl (V_assign rfl rfl) ?_
  refine GT_nil ?_
  refine GE_seq ?_
  refine GE_plain (.st 0 .nil) rfl ?_
  refine GT_st rfl rfl rfl rfl (V_assign rfl rfl) ?_
  refine GT_nil ?_
  refine GE_seq ?_
  refine GE_plain (.st 0 .nil) rfl ?_
  refine GT_st rfl rfl rfl rfl (V_assign rfl rfl) ?_
  refine GT_nil ?_
  refine GE_seq ?_
  refine GE_seq ?_
  refine GE_plain (.st 0 .nil) rfl ?_
  refine GT_st rfl rfl rfl rfl (V_assign rfl rfl) ?_
  refine GT_nil ?_
  refine GE_block ?_
  refine GE_to (GE_loop (ι := Nat × Option Addr × Nat × Items) (fun x => p.length - x.1) (fun x => [(0, .slice A2 p.length c2), (4, .slice x.2.1 x.1 x.2.2.1), (5, I (fin (p.take x.1))), (6, I x.1)]) (fun x => x.2.2.2) (fun x => x.1 ≤ p.length ∧ Own 1 3 eI (bgns p x.1) (.slice x.2.1 x.1 x.2.2.1) x.2.2.2) ?_ (0, none, 0, []) ?_) ⟨rfl, rfl, rfl, rfl, trivial⟩ HS.nil
  · rintro ⟨k, A', c', I'⟩ ⟨hk, hO⟩ ih; dsimp only at hk hO ih ⊢; have hfb := gd_fin hg hk; have hmost := hg.most
    refine GE_seq ?_
    refine GE_seq ?_
    refine GE_plain (.st 0 (.st 1 (.st 2 (.st 3 .nil)))) rfl ?_
    refine GT_st rfl rfl rfl rfl (V_move rfl rfl) ?_
    refine GT_st rfl rfl rfl rfl (V_move rfl rfl) ?_
    refine GT_st rfl rfl rfl rfl (V_len rfl Tryd.underlying31 rfl) ?_
    refine GT_st rfl rfl rfl rfl (V_lss rfl rfl rfl) ?_
    refine GT_nil ?_
    first | refine GE_condNot rfl (fun q1 => ?_) (fun q1 => ?_) | refine GE_cond rfl (fun q1 => ?_) (fun q1 => ?_) | refine GE_condNotB rfl (fun q1 => ?_) (fun q1 => ?_) | refine GE_condB rfl (fun q1 => ?_) (fun q1 => ?_)
    · have hkl : k < p.length := (by omega); have hpr := gd_prt hg hkl; obtain ⟨hb1, hb2, hb3, hb4⟩ := gd_bgn hg hkl
      refine GE_skip ?_
      refine GE_seq ?_
      refine GE_block ?_
      refine GE_seq ?_
      refine GE_slots (L' := [(0, _), (4, _), (5, _), (6, _)]) ⟨rfl, rfl, rfl, rfl, trivial⟩ ?_
      refine GE_plain (.st 0 (.st 1 (.st 2 (.st 3 (.st 4 (.st 5 (.st 6 (.st 7 (.ld 8 [] (.ld 9 [] (.ld 10 [] .nil))))))))))) rfl ?_
      refine GT_st rfl rfl rfl rfl (V_move rfl rfl) ?_
      refine GT_st rfl rfl rfl rfl (V_move rfl rfl) ?_
      refine GT_st rfl rfl rfl rfl (V_move rfl rfl) ?_
      refine GT_st rfl rfl rfl rfl (V_move rfl rfl) ?_
      refine GT_st rfl rfl rfl rfl (V_index rfl rfl rfl Tryd.underlying31 sz_30 (k := k) rfl hkl (hp.isSome hkl)) ?_
      first | refine GT_st rfl rfl rfl rfl (V_field rfl rfl fo_30_3) ?_ | refine GT_st rfl rfl rfl rfl (V_fieldA rfl rfl fo_30_3) ?_
      refine GT_st rfl rfl rfl rfl (V_load rfl rfl ag_3 (hp.at1 noM hkl (show _ = some (I (pt p k).gap) from rfl))) ?_
      refine GT_st rfl rfl rfl rfl (V_add rfl rfl rfl ((wrap_i64 (by omega)).trans hb4.symm)) ?_
      refine GT_buildSlice (z := [_]) rfl rfl rfl rfl rfl Tryd.underlying62 zc_3 sz_3 (by decide) rfl rfl (fun _ => GR_nil) (fun b21 => ?_)
      refine GT_append (enc := eI) (m := [bgn p k]) rfl rfl rfl rfl rfl rfl rfl hO (fun w m => RdL.own' m eI_len) Tryd.underlying62 zc_3 sz_3 ⟨rfl, by decide⟩ by_3 ⟨by rw [bgns_len]; simp only [List.length_singleton]; omega, by rw [bgns_len]; simp only [List.length_singleton]; omega⟩ eI_len eI_one (fun _ _ _ _ => GR_nil) (fun A2' c2' I2' hO2 => ?_)
      rw [← bgns_succ, bgns_len] at hO2 ⊢
      refine GT_ldv rfl rfl rfl rfl rfl (V_assign rfl rfl) (GR_nil) ?_
      refine GT_nil ?_
      refine GE_slots (L' := [(0, _), (4, _), (6, _)]) ⟨rfl, rfl, rfl, trivial⟩ ?_
      refine GE_drawn (.st 0 (.st 1 (.st 2 (.st 3 (.st 4 (.st 5 (.st 6 (.st 7 (.ld 8 [0, 1, 2, 3] (.st 9 (.st 10 .nil))))))))))) [8] (by decide +kernel) ?_
      refine GT_st rfl rfl rfl rfl (V_move rfl rfl) ?_
      refine GT_st rfl rfl rfl rfl (V_move rfl rfl) ?_
      refine GT_st rfl rfl rfl rfl (V_index rfl rfl rfl Tryd.underlying62 sz_3 (k := k) rfl (by omega) (hO2.isSome (k := k) (by rw [bgns_len]; omega))) ?_
      refine GT_st rfl rfl rfl rfl (V_load rfl rfl ag_3 (CellAt.own0 (k := k) hO2 eI_len (by rw [bgns_len]; omega) (by rw [bgns_get (by omega)]; rfl))) ?_
      refine GT_st rfl rfl rfl rfl (V_move rfl rfl) ?_
      refine GT_st rfl rfl rfl rfl (V_move rfl rfl) ?_
      refine GT_st rfl rfl rfl rfl (V_index rfl rfl rfl Tryd.underlying31 sz_30 (k := k) rfl hkl (hp.isSome hkl)) ?_
      refine GT_st rfl rfl rfl rfl (V_loadN (vs := [_, _, _, _, _, _, _]) rfl rfl ag_30 sz_30 rfl (show CellsAt _ _ _ (ePrt (pt p k)) from hp.ats noM hkl)) ?_
      refine GT_call0 rfl rfl rfl rfl rfl rfl rfl rfl rn_56 (fun w hw => C_rLong (x := pt p k) (by omega)) (GR_cons rfl rfl rfl rfl (V_move rfl rfl) (GR_cons rfl rfl rfl rfl (V_move rfl rfl) (GR_cons rfl rfl rfl rfl (V_index rfl rfl rfl Tryd.underlying62 sz_3 (k := k) rfl (by omega) (hO2.isSome (k := k) (by rw [bgns_len]; omega))) (GR_cons rfl rfl rfl rfl (V_load rfl rfl ag_3 (CellAt.own0 (k := k) hO2 eI_len (by rw [bgns_len]; omega) (by rw [bgns_get (by omega)]; rfl))) (GR_nil))))) ?_
      refine GT_st rfl rfl rfl rfl (V_add rfl rfl rfl (wrap_i64 (by omega))) ?_
      refine GT_st rfl rfl rfl rfl (V_assign rfl rfl) ?_
      refine GT_nil ?_
      refine GE_inBlock ?_
      refine GE_slots (L' := [(0, _), (4, _), (5, _), (6, _)]) ⟨rfl, rfl, rfl, rfl, trivial⟩ ?_
      refine GE_plain (.st 0 (.st 1 (.ld 2 [] .nil))) rfl ?_
      refine GT_st rfl rfl rfl rfl (V_move rfl rfl) ?_
      refine GT_st rfl rfl rfl rfl (V_add rfl rfl rfl (wrap_i64 (by omega))) ?_
      refine GT_ldv rfl rfl rfl rfl rfl (V_assign rfl rfl) (GR_nil) ?_
      refine GT_nil ?_
      exact GE_to (ih (k + 1, A2', c2', I2') ⟨by dsimp only; omega, hO2⟩ (by dsimp only; omega)) ⟨rfl, rfl, lookI rfl (by rw [fin_take hkl, hb3]), rfl, trivial⟩ HS.last
    · obtain rfl : k = p.length := (by omega); rw [fin_all]
      refine GE_exit rfl ?_
      refine GE_seq ?_
      refine GE_slots (L' := [(4, _), (5, _)]) ⟨rfl, rfl, trivial⟩ ?_
      refine GE_plain (.st 0 (.st 1 (.st 2 (.st 3 .nil)))) rfl ?_
      refine GT_st rfl rfl rfl rfl (V_move rfl rfl) ?_
      refine GT_st rfl rfl rfl rfl (V_move rfl rfl) ?_
      refine GT_st rfl rfl rfl rfl (V_assign rfl rfl) ?_
      refine GT_st rfl rfl rfl rfl (V_assign rfl rfl) ?_
      refine GT_nil ?_
      refine GE_ret Tryd.func59 ⟨_, _, rfl, rfl, rfl⟩ (fun w hw => ?_)
      exact ⟨(A', c', I'), hO, rfl, hw⟩
  · exact ⟨Nat.zero_le _, Own.nil⟩
set_option maxRecDepth 20000 in
set_option maxHeartbeats 2000000 in
theorem C_rpossible (hg : Gd l p) (hp : RdL w 7 ePrt A2 p) : Con0 Tryd.prog 53 [.slice A2 p.length c2] w (.bool (decide (Poss p))) := by
  refine Ret_of (vs := [_]) hm none' Tryd.func53 rfl Tryd.ntmps53 rfl ?_
  dsimp only [slotsOf]
  refine GE_seq ?_
  refine GE_plain (.st 0 .nil) rfl ?_
  refine GT_st rfl rfl rfl rfl (V_assign rfl rfl) ?_
  refine GT_nil ?_
  refine GE_seq ?_
  refine GE_plain (.st 0 (.ld 1 [] (.st 2 (.st 3 (.st 4 (.st 5 (.st 6 .nil))))))) rfl ?_
  refine GT_st rfl rfl rfl rfl (V_move rfl rfl) ?_
  refine GT_call rfl rfl rfl rfl rfl rfl rfl rfl rn_59 (fun w hw => C_rstarts hg (hp.sh hw)) (fun _ _ => GR_nil) (fun y hy => ?_)
  refine GT_st rfl rfl rfl rfl (V_move rfl rfl) ?_
  refine GT_st rfl rfl rfl rfl (V_extract rfl rfl rfl) ?_
  refine GT_st rfl rfl rfl rfl (V_extract rfl rfl rfl) ?_
  refine GT_st rfl rfl rfl rfl (V_assign rfl rfl) ?_
  refine GT_st rfl rfl rfl rfl (V_assign rfl rfl) ?_
  refine GT_nil ?_
  refine GE_seq ?_
  refine GE_seq ?_
  refine GE_slots (L' := [(0, _), (3, _), (4, _)]) ⟨rfl, rfl, rfl, trivial⟩ ?_
  refine GE_plain (.st 0 .nil) rfl ?_
  refine GT_st rfl rfl rfl rfl (V_assign rfl rfl) ?_
  refine GT_nil ?_
  refine GE_block ?_
  refine GE_to (GE_loop (ι := Nat) (fun i => p.length - i) (fun i => [(0, .slice A2 p.length c2), (3, .slice y.1 p.length y.2.1), (4, I (fin p)), (5, I i)]) (fun i => y.2.2) (fun i => i ≤ p.length ∧ ∀ j, j < i → posOk p j) ?_ 0 ?_) ⟨rfl, rfl, rfl, rfl, trivial⟩ HS.last
  · rintro i ⟨hi, hps⟩ ih; have hmost := hg.most; have bl := bgns_len p p.length
    refine GE_seq ?_
    refine GE_seq ?_
    refine GE_plain (.st 0 (.st 1 (.st 2 (.st 3 .nil)))) rfl ?_
    refine GT_st rfl rfl rfl rfl (V_move rfl rfl) ?_
    refine GT_st rfl rfl rfl rfl (V_move rfl rfl) ?_
    refine GT_st rfl rfl rfl rfl (V_len rfl Tryd.underlying31 rfl) ?_
    refine GT_st rfl rfl rfl rfl (V_lss rfl rfl rfl) ?_
    refine GT_nil ?_
    first | refine GE_condNot rfl (fun q1 => ?_) (fun q1 => ?_) | refine GE_cond rfl (fun q1 => ?_) (fun q1 => ?_) | refine GE_condNotB rfl (fun q1 => ?_) (fun q1 => ?_) | refine GE_condB rfl (fun q1 => ?_) (fun q1 => ?_)
    · have hil : i < p.length := (by omega); have hpr := gd_prt hg hil; have hpr1 := gd_prt hg (i := i - 1) (by omega); have hpr2 := gd_prt hg (i := i - 2) (by omega); have hbb := gd_bgn hg hil; have hb1 := gd_bgn hg (i := i - 1) (by omega); have hb2 := gd_bgn hg (i := i - 2) (by omega); have hbs : 0 < i → bgn p i = en p (i - 1) + (pt p i).gap := (fun h0 => bgn_succ h0 hil)
      refine GE_skip ?_
      refine GE_seq ?_
      refine GE_block ?_
      refine GE_seq ?_
      refine GE_slots (L' := [(0, _), (3, _), (4, _), (5, _)]) ⟨rfl, rfl, rfl, rfl, trivial⟩ ?_
      refine GE_drawn (.st 0 (.st 1 (.st 2 (.st 3 (.st 4 (.st 5 (.st 6 (.st 7 (.st 8 (.st 9 (.st 10 (.st 11 (.st 12 (.st 13 (.st 14 (.st 15 (.st 16 (.st 17 (.st 18 (.st 19 (.st 20 (.st 21 (.ld 22 [13, 14, 15, 16, 17] (.st 23 (.st 24 (.st 25 (.st 26 (.st 27 (.st 28 (.st 29 (.st 30 (.st 31 (.st 32 (.st 33 (.st 34 (.st 35 (.ld 36 [26, 27, 28, 29, 30] (.st 37 (.st 38 (.st 39 (.st 40 (.st 41 (.st 42 (.st 43 (.st 44 (.st 45 (.st 46 (.st 47 (.st 48 (.st 49 (.st 50 (.st 51 (.st 52 (.st 53 (.st 54 (.st 55 (.st 56 (.st 57 (.st 58 (.st 59 (.ld 60 [46, 47, 48, 49, 50, 51, 52, 53, 54] (.st 61 (.st 62 (.st 63 (.st 64 .nil))))))))))))))))))))))))))))))))))))))))))))))))))))))))))))))))) [22, 36, 60] (by decide +kernel) ?_
      refine GT_st rfl rfl rfl rfl (V_move rfl rfl) ?_
      refine GT_st rfl rfl rfl rfl (V_eql rfl rfl rfl) ?_
      refine GT_st rfl rfl rfl rfl (V_move rfl rfl) ?_
      first | refine GT_splitNot (d := 19) rfl (fun q2 => ?_) (fun q2 => ?_) | refine GT_split (d := 19) rfl (fun q2 => ?_) (fun q2 => ?_) | refine GT_splitNotB (d := 19) rfl (fun q2 => ?_) (fun q2 => ?_) | refine GT_splitB (d := 19) rfl (fun q2 => ?_) (fun q2 => ?_)
      · skip
        refine GT_st_g rfl rfl rfl rfl rfl rfl rfl (V_move rfl rfl) ?_
        refine GT_st_g rfl rfl rfl rfl rfl rfl rfl (V_move rfl rfl) ?_
        refine GT_st_g rfl rfl rfl rfl rfl rfl rfl (V_index rfl rfl rfl Tryd.underlying62 sz_3 (k := i) rfl hil (hy.isSome (k := i) (by omega))) ?_
        refine GT_st_g rfl rfl rfl rfl rfl rfl rfl (V_load rfl rfl ag_3 (CellAt.own0 (k := i) hy eI_len (by omega) (by rw [bgns_get hil]; rfl))) ?_
        refine GT_st_g rfl rfl rfl rfl rfl rfl rfl (V_lss rfl rfl rfl) ?_
        refine GT_st rfl rfl rfl rfl (V_pick_t rfl rfl rfl) ?_
        refine GT_st rfl rfl rfl rfl (V_move rfl rfl) ?_
        first | refine GT_splitNot (d := 26) rfl (fun q3 => ?_) (fun q3 => ?_) | refine GT_split (d := 26) rfl (fun q3 => ?_) (fun q3 => ?_) | refine GT_splitNotB (d := 26) rfl (fun q3 => ?_) (fun q3 => ?_) | refine GT_splitB (d := 26) rfl (fun q3 => ?_) (fun q3 => ?_)
        · skip
          refine GT_skip rfl rfl rfl rfl rfl (by decide) rfl rfl ?_
          refine GT_skip rfl rfl rfl rfl rfl (by decide) rfl rfl ?_
          refine GT_skip rfl rfl rfl rfl rfl (by decide) rfl rfl ?_
          refine GT_skip rfl rfl rfl rfl rfl (by decide) rfl rfl ?_
          refine GT_skip rfl rfl rfl rfl rfl (by decide) rfl rfl ?_
          refine GT_skip rfl rfl rfl rfl rfl (by decide) rfl rfl ?_
          refine GT_skip rfl rfl rfl rfl rfl (by decide) rfl rfl ?_
          refine GT_skip rfl rfl rfl rfl rfl (by decide) rfl rfl ?_
          refine GT_skip rfl rfl rfl rfl rfl (by decide) rfl rfl ?_
          refine GT_skip rfl rfl rfl rfl rfl (by decide) rfl rfl ?_
          refine GT_skip rfl rfl rfl rfl rfl (by decide) rfl rfl ?_
          refine GT_skip rfl rfl rfl rfl rfl (by decide) rfl rfl ?_
          refine GT_skip_ld rfl rfl rfl rfl rfl (by decide) rfl rfl rfl (GR_skip rfl rfl rfl rfl rfl (by decide) rfl rfl (GR_skip rfl rfl rfl rfl rfl (by decide) rfl rfl (GR_skip rfl rfl rfl rfl rfl (by decide) rfl rfl (GR_skip rfl rfl rfl rfl rfl (by decide) rfl rfl (GR_skip rfl rfl rfl rfl rfl (by decide) rfl rfl (GR_nil)))))) ?_
          refine GT_skip rfl rfl rfl rfl rfl (by decide) rfl rfl ?_
          refine GT_skip rfl rfl rfl rfl rfl (by decide) rfl rfl ?_
          refine GT_skip rfl rfl rfl rfl rfl (by decide) rfl rfl ?_
          refine GT_skip rfl rfl rfl rfl rfl (by decide) rfl rfl ?_
          refine GT_skip rfl rfl rfl rfl rfl (by decide) rfl rfl ?_
          refine GT_skip rfl rfl rfl rfl rfl (by decide) rfl rfl ?_
          refine GT_skip rfl rfl rfl rfl rfl (by decide) rfl rfl ?_
          refine GT_skip rfl rfl rfl rfl rfl (by decide) rfl rfl ?_
          refine GT_skip rfl rfl rfl rfl rfl (by decide) rfl rfl ?_
          refine GT_skip rfl rfl rfl rfl rfl (by decide) rfl rfl ?_
          refine GT_skip rfl rfl rfl rfl rfl (by decide) rfl rfl ?_
          refine GT_skip rfl rfl rfl rfl rfl (by decide) rfl rfl ?_
          refine GT_skip rfl rfl rfl rfl rfl (by decide) rfl rfl ?_
          refine GT_skip_ld rfl rfl rfl rfl rfl (by decide) rfl rfl rfl (GR_skip rfl rfl rfl rfl rfl (by decide) rfl rfl (GR_skip rfl rfl rfl rfl rfl (by decide) rfl rfl (GR_skip rfl rfl rfl rfl rfl (by decide) rfl rfl (GR_skip rfl rfl rfl rfl rfl (by decide) rfl rfl (GR_skip rfl rfl rfl rfl rfl (by decide) rfl rfl (GR_nil)))))) ?_
          refine GT_skip rfl rfl rfl rfl rfl (by decide) rfl rfl ?_
          refine GT_skip rfl rfl rfl rfl rfl (by decide) rfl rfl ?_
          refine GT_skip rfl rfl rfl rfl rfl (by decide) rfl rfl ?_
          refine GT_skip rfl rfl rfl rfl rfl (by decide) rfl rfl ?_
          refine GT_st rfl rfl rfl rfl (V_pick_t rfl rfl rfl) ?_
          refine GT_st rfl rfl rfl rfl (V_move rfl rfl) ?_
          refine GT_skip rfl rfl rfl rfl rfl (by decide) rfl rfl ?_
          refine GT_skip rfl rfl rfl rfl rfl (by decide) rfl rfl ?_
          refine GT_skip rfl rfl rfl rfl rfl (by decide) rfl rfl ?_
          refine GT_skip rfl rfl rfl rfl rfl (by decide) rfl rfl ?_
          refine GT_skip rfl rfl rfl rfl rfl (by decide) rfl rfl ?_
          refine GT_skip rfl rfl rfl rfl rfl (by decide) rfl rfl ?_
          refine GT_skip rfl rfl rfl rfl rfl (by decide) rfl rfl ?_
          refine GT_skip rfl rfl rfl rfl rfl (by decide) rfl rfl ?_
          refine GT_skip rfl rfl rfl rfl rfl (by decide) rfl rfl ?_
          refine GT_skip rfl rfl rfl rfl rfl (by decide) rfl rfl ?_
          refine GT_skip rfl rfl rfl rfl rfl (by decide) rfl rfl ?_
          refine GT_skip rfl rfl rfl rfl rfl (by decide) rfl rfl ?_
          refine GT_skip rfl rfl rfl rfl rfl (by decide) rfl rfl ?_
          refine GT_skip rfl rfl rfl rfl rfl (by decide) rfl rfl ?_
          refine GT_skip rfl rfl rfl rfl rfl (by decide) rfl rfl ?_
          refine GT_skip rfl rfl rfl rfl rfl (by decide) rfl rfl ?_
          refine GT_skip rfl rfl rfl rfl rfl (by decide) rfl rfl ?_
          refine GT_skip_ld rfl rfl rfl rfl rfl (by decide) rfl rfl rfl (GR_skip rfl rfl rfl rfl rfl (by decide) rfl rfl (GR_skip rfl rfl rfl rfl rfl (by decide) rfl rfl (GR_skip rfl rfl rfl rfl rfl (by decide) rfl rfl (GR_skip rfl rfl rfl rfl rfl (by decide) rfl rfl (GR_skip rfl rfl rfl rfl rfl (by decide) rfl rfl (GR_skip rfl rfl rfl rfl rfl (by decide) rfl rfl (GR_skip rfl rfl rfl rfl rfl (by decide) rfl rfl (GR_skip rfl rfl rfl rfl rfl (by decide) rfl rfl (GR_skip rfl rfl rfl rfl rfl (by decide) rfl rfl (GR_nil)))))))))) ?_
          refine GT_skip rfl rfl rfl rfl rfl (by decide) rfl rfl ?_
          refine GT_skip rfl rfl rfl rfl rfl (by decide) rfl rfl ?_
          refine GT_skip rfl rfl rfl rfl rfl (by decide) rfl rfl ?_
          refine GT_st rfl rfl rfl rfl (V_pick_t rfl rfl rfl) ?_
          refine GT_nil ?_
          refine GE_cond_t rfl ?_
          refine GE_seq ?_
          refine GE_slots (L' := []) trivial ?_
          refine GE_plain (.st 0 .nil) rfl ?_
          refine GT_st rfl rfl rfl rfl (V_assign rfl rfl) ?_
          refine GT_nil ?_
          refine GE_ret Tryd.func53 rfl (fun w hw => ⟨?_, hw.nil⟩)
          first | (rw [decide_eq_false]; intro hP; have := hP.1 i hil; unfold posOk at this; omega) | (refine congrArg Value.bool (decide_eq_decide.2 ⟨fun h => ⟨fun j hj => hps j (by omega), h⟩, fun h => h.2⟩))
        · skip
          refine GT_st_g rfl rfl rfl rfl rfl rfl rfl (V_move rfl rfl) ?_
          refine GT_st_g rfl rfl rfl rfl rfl rfl rfl (V_gtr rfl rfl rfl) ?_
          refine GT_st_g rfl rfl rfl rfl rfl rfl rfl (V_move rfl rfl) ?_
          first | refine GT_splitNot (d := 29) rfl (fun q4 => ?_) (fun q4 => ?_) | refine GT_split (d := 29) rfl (fun q4 => ?_) (fun q4 => ?_) | refine GT_splitNotB (d := 29) rfl (fun q4 => ?_) (fun q4 => ?_) | refine GT_splitB (d := 29) rfl (fun q4 => ?_) (fun q4 => ?_)
          · skip
            refine GT_st_g rfl rfl rfl rfl rfl rfl rfl (V_move rfl rfl) ?_
            refine GT_st_g rfl rfl rfl rfl rfl rfl rfl (V_move rfl rfl) ?_
            refine GT_st_g rfl rfl rfl rfl rfl rfl rfl (V_index rfl rfl rfl Tryd.underlying31 sz_30 (k := i) rfl hil (hp.isSome hil)) ?_
            first | refine GT_st_g rfl rfl rfl rfl rfl rfl rfl (V_field rfl rfl fo_30_3) ?_ | refine GT_st_g rfl rfl rfl rfl rfl rfl rfl (V_fieldA rfl rfl fo_30_3) ?_
            refine GT_st_g rfl rfl rfl rfl rfl rfl rfl (V_load rfl rfl ag_3 (hp.at1 noM hil (show _ = some (I (pt p i).gap) from rfl))) ?_
            refine GT_st_g rfl rfl rfl rfl rfl rfl rfl (V_move rfl rfl) ?_
            refine GT_st_g rfl rfl rfl rfl rfl rfl rfl (V_move rfl rfl) ?_
            refine GT_st_g rfl rfl rfl rfl rfl rfl rfl (V_index rfl rfl rfl Tryd.underlying31 sz_30 (k := i) rfl hil (hp.isSome hil)) ?_
            refine GT_st_g rfl rfl rfl rfl rfl rfl rfl (V_loadN (vs := [_, _, _, _, _, _, _]) rfl rfl ag_30 sz_30 rfl (show CellsAt _ _ _ (ePrt (pt p i)) from hp.ats noM hil)) ?_
            refine GT_call0_g rfl rfl rfl rfl rfl rfl rfl rfl rfl rfl rfl rn_56 (fun w hw => C_rLong (x := pt p i) (by omega)) (GR_cons_g rfl rfl rfl rfl rfl rfl rfl (V_move rfl rfl) (GR_cons_g rfl rfl rfl rfl rfl rfl rfl (V_move rfl rfl) (GR_cons_g rfl rfl rfl rfl rfl rfl rfl (V_index rfl rfl rfl Tryd.underlying31 sz_30 (k := i) rfl hil (hp.isSome hil)) (GR_cons_g rfl rfl rfl rfl rfl rfl rfl ((by first | exact V_field rfl rfl fo_30_3 | exact V_fieldA rfl rfl fo_30_3)) (GR_cons_g rfl rfl rfl rfl rfl rfl rfl (V_load rfl rfl ag_3 (hp.at1 noM hil (show _ = some (I (pt p i).gap) from rfl))) (GR_nil)))))) ?_
            refine GT_st_g rfl rfl rfl rfl rfl rfl rfl (V_neg rfl rfl (wrap_i64 (by omega))) ?_
            refine GT_st_g rfl rfl rfl rfl rfl rfl rfl (V_lss rfl rfl rfl) ?_
            refine GT_st_g rfl rfl rfl rfl rfl rfl rfl (V_move rfl rfl) ?_
            first | refine GT_splitNot (d := 42) rfl (fun q5 => ?_) (fun q5 => ?_) | refine GT_split (d := 42) rfl (fun q5 => ?_) (fun q5 => ?_) | refine GT_splitNotB (d := 42) rfl (fun q5 => ?_) (fun q5 => ?_) | refine GT_splitB (d := 42) rfl (fun q5 => ?_) (fun q5 => ?_)
            · skip
              refine GT_skip rfl rfl rfl rfl rfl (by decide) rfl rfl ?_
              refine GT_skip rfl rfl rfl rfl rfl (by decide) rfl rfl ?_
              refine GT_skip rfl rfl rfl rfl rfl (by decide) rfl rfl ?_
              refine GT_skip rfl rfl rfl rfl rfl (by decide) rfl rfl ?_
              refine GT_skip rfl rfl rfl rfl rfl (by decide) rfl rfl ?_
              refine GT_skip rfl rfl rfl rfl rfl (by decide) rfl rfl ?_
              refine GT_skip rfl rfl rfl rfl rfl (by decide) rfl rfl ?_
              refine GT_skip rfl rfl rfl rfl rfl (by decide) rfl rfl ?_
              refine GT_skip rfl rfl rfl rfl rfl (by decide) rfl rfl ?_
              refine GT_skip rfl rfl rfl rfl rfl (by decide) rfl rfl ?_
              refine GT_skip_ld rfl rfl rfl rfl rfl (by decide) rfl rfl rfl (GR_skip rfl rfl rfl rfl rfl (by decide) rfl rfl (GR_skip rfl rfl rfl rfl rfl (by decide) rfl rfl (GR_skip rfl rfl rfl rfl rfl (by decide) rfl rfl (GR_skip rfl rfl rfl rfl rfl (by decide) rfl rfl (GR_skip rfl rfl rfl rfl rfl (by decide) rfl rfl (GR_nil)))))) ?_
              refine GT_skip rfl rfl rfl rfl rfl (by decide) rfl rfl ?_
              refine GT_skip rfl rfl rfl rfl rfl (by decide) rfl rfl ?_
              refine GT_st_g rfl rfl rfl rfl rfl rfl rfl (V_pick_t rfl rfl rfl) ?_
              refine GT_st_g rfl rfl rfl rfl rfl rfl rfl (V_pick_t rfl rfl rfl) ?_
              refine GT_st rfl rfl rfl rfl (V_pick_f rfl rfl rfl) ?_
              refine GT_st rfl rfl rfl rfl (V_move rfl rfl) ?_
              refine GT_skip rfl rfl rfl rfl rfl (by decide) rfl rfl ?_
              refine GT_skip rfl rfl rfl rfl rfl (by decide) rfl rfl ?_
              refine GT_skip rfl rfl rfl rfl rfl (by decide) rfl rfl ?_
              refine GT_skip rfl rfl rfl rfl rfl (by decide) rfl rfl ?_
              refine GT_skip rfl rfl rfl rfl rfl (by decide) rfl rfl ?_
              refine GT_skip rfl rfl rfl rfl rfl (by decide) rfl rfl ?_
              refine GT_skip rfl rfl rfl rfl rfl (by decide) rfl rfl ?_
              refine GT_skip rfl rfl rfl rfl rfl (by decide) rfl rfl ?_
              refine GT_skip rfl rfl rfl rfl rfl (by decide) rfl rfl ?_
              refine GT_skip rfl rfl rfl rfl rfl (by decide) rfl rfl ?_
              refine GT_skip rfl rfl rfl rfl rfl (by decide) rfl rfl ?_
              refine GT_skip rfl rfl rfl rfl rfl (by decide) rfl rfl ?_
              refine GT_skip rfl rfl rfl rfl rfl (by decide) rfl rfl ?_
              refine GT_skip rfl rfl rfl rfl rfl (by decide) rfl rfl ?_
              refine GT_skip rfl rfl rfl rfl rfl (by decide) rfl rfl ?_
              refine GT_skip rfl rfl rfl rfl rfl (by decide) rfl rfl ?_
              refine GT_skip rfl rfl rfl rfl rfl (by decide) rfl rfl ?_
              refine GT_skip_ld rfl rfl rfl rfl rfl (by decide) rfl rfl rfl (GR_skip rfl rfl rfl rfl rfl (by decide) rfl rfl (GR_skip rfl rfl rfl rfl rfl (by decide) rfl rfl (GR_skip rfl rfl rfl rfl rfl (by decide) rfl rfl (GR_skip rfl rfl rfl rfl rfl (by decide) rfl rfl (GR_skip rfl rfl rfl rfl rfl (by decide) rfl rfl (GR_skip rfl rfl rfl rfl rfl (by decide) rfl rfl (GR_skip rfl rfl rfl rfl rfl (by decide) rfl rfl (GR_skip rfl rfl rfl rfl rfl (by decide) rfl rfl (GR_skip rfl rfl rfl rfl rfl (by decide) rfl rfl (GR_nil)))))))))) ?_
              refine GT_skip rfl rfl rfl rfl rfl (by decide) rfl rfl ?_
              refine GT_skip rfl rfl rfl rfl rfl (by decide) rfl rfl ?_
              refine GT_skip rfl rfl rfl rfl rfl (by decide) rfl rfl ?_
              refine GT_st rfl rfl rfl rfl (V_pick_t rfl rfl rfl) ?_
              refine GT_nil ?_
              refine GE_cond_t rfl ?_
              refine GE_seq ?_
              refine GE_slots (L' := []) trivial ?_
              refine GE_plain (.st 0 .nil) rfl ?_
              refine GT_st rfl rfl rfl rfl (V_assign rfl rfl) ?_
              refine GT_nil ?_
              refine GE_ret Tryd.func53 rfl (fun w hw => ⟨?_, hw.nil⟩)
              first | (rw [decide_eq_false]; intro hP; have := hP.1 i hil; unfold posOk at this; omega) | (refine congrArg Value.bool (decide_eq_decide.2 ⟨fun h => ⟨fun j hj => hps j (by omega), h⟩, fun h => h.2⟩))
            · skip
              refine GT_st_g rfl rfl rfl rfl rfl rfl rfl (V_move rfl rfl) ?_
              refine GT_st_g rfl rfl rfl rfl rfl rfl rfl (V_move rfl rfl) ?_
              refine GT_st_g rfl rfl rfl rfl rfl rfl rfl (V_index rfl rfl rfl Tryd.underlying31 sz_30 (k := i) rfl hil (hp.isSome hil)) ?_
              first | refine GT_st_g rfl rfl rfl rfl rfl rfl rfl (V_field rfl rfl fo_30_3) ?_ | refine GT_st_g rfl rfl rfl rfl rfl rfl rfl (V_fieldA rfl rfl fo_30_3) ?_
              refine GT_st_g rfl rfl rfl rfl rfl rfl rfl (V_load rfl rfl ag_3 (hp.at1 noM hil (show _ = some (I (pt p i).gap) from rfl))) ?_
              refine GT_st_g rfl rfl rfl rfl rfl rfl rfl (V_move rfl rfl) ?_
              refine GT_st_g rfl rfl rfl rfl rfl rfl rfl (V_move rfl rfl) ?_
              refine GT_st_g rfl rfl rfl rfl rfl rfl rfl (V_sub rfl rfl rfl (wrap_i64 (by omega))) ?_
              refine GT_st_g rfl rfl rfl rfl rfl rfl rfl (V_index rfl rfl rfl Tryd.underlying31 sz_30 (k := i - 1) (by omega) (by omega) (hp.isSome (k := i - 1) (by omega))) ?_
              refine GT_st_g rfl rfl rfl rfl rfl rfl rfl (V_loadN (vs := [_, _, _, _, _, _, _]) rfl rfl ag_30 sz_30 rfl (show CellsAt _ _ _ (ePrt (pt p (i - 1))) from hp.ats noM (by omega))) ?_
              refine GT_call0_g rfl rfl rfl rfl rfl rfl rfl rfl rfl rfl rfl rn_56 (fun w hw => C_rLong (x := pt p (i - 1)) (by omega)) (GR_cons_g rfl rfl rfl rfl rfl rfl rfl (V_move rfl rfl) (GR_cons_g rfl rfl rfl rfl rfl rfl rfl (V_move rfl rfl) (GR_cons_g rfl rfl rfl rfl rfl rfl rfl (V_index rfl rfl rfl Tryd.underlying31 sz_30 (k := i) rfl hil (hp.isSome hil)) (GR_cons_g rfl rfl rfl rfl rfl rfl rfl ((by first | exact V_field rfl rfl fo_30_3 | exact V_fieldA rfl rfl fo_30_3)) (GR_cons_g rfl rfl rfl rfl rfl rfl rfl (V_load rfl rfl ag_3 (hp.at1 noM hil (show _ = some (I (pt p i).gap) from rfl))) (GR_nil)))))) ?_
              refine GT_st_g rfl rfl rfl rfl rfl rfl rfl (V_neg rfl rfl (wrap_i64 (by omega))) ?_
              refine GT_st_g rfl rfl rfl rfl rfl rfl rfl (V_lss rfl rfl rfl) ?_
              refine GT_st_g rfl rfl rfl rfl rfl rfl rfl (V_pick_f rfl rfl rfl) ?_
              refine GT_st_g rfl rfl rfl rfl rfl rfl rfl (V_pick_t rfl rfl rfl) ?_
              refine GT_st rfl rfl rfl rfl (V_pick_f rfl rfl rfl) ?_
              refine GT_st rfl rfl rfl rfl (V_move rfl rfl) ?_
              first | refine GT_splitNot (d := 59) rfl (fun q6 => ?_) (fun q6 => ?_) | refine GT_split (d := 59) rfl (fun q6 => ?_) (fun q6 => ?_) | refine GT_splitNotB (d := 59) rfl (fun q6 => ?_) (fun q6 => ?_) | refine GT_splitB (d := 59) rfl (fun q6 => ?_) (fun q6 => ?_)
              · skip
                refine GT_skip rfl rfl rfl rfl rfl (by decide) rfl rfl ?_
                refine GT_skip rfl rfl rfl rfl rfl (by decide) rfl rfl ?_
                refine GT_skip rfl rfl rfl rfl rfl (by decide) rfl rfl ?_
                refine GT_skip rfl rfl rfl rfl rfl (by decide) rfl rfl ?_
                refine GT_skip rfl rfl rfl rfl rfl (by decide) rfl rfl ?_
                refine GT_skip rfl rfl rfl rfl rfl (by decide) rfl rfl ?_
                refine GT_skip rfl rfl rfl rfl rfl (by decide) rfl rfl ?_
                refine GT_skip rfl rfl rfl rfl rfl (by decide) rfl rfl ?_
                refine GT_skip rfl rfl rfl rfl rfl (by decide) rfl rfl ?_
                refine GT_skip rfl rfl rfl rfl rfl (by decide) rfl rfl ?_
                refine GT_skip rfl rfl rfl rfl rfl (by decide) rfl rfl ?_
                refine GT_skip rfl rfl rfl rfl rfl (by decide) rfl rfl ?_
                refine GT_skip rfl rfl rfl rfl rfl (by decide) rfl rfl ?_
                refine GT_skip rfl rfl rfl rfl rfl (by decide) rfl rfl ?_
                refine GT_skip rfl rfl rfl rfl rfl (by decide) rfl rfl ?_
                refine GT_skip rfl rfl rfl rfl rfl (by decide) rfl rfl ?_
                refine GT_skip rfl rfl rfl rfl rfl (by decide) rfl rfl ?_
                refine GT_skip_ld rfl rfl rfl rfl rfl (by decide) rfl rfl rfl (GR_skip rfl rfl rfl rfl rfl (by decide) rfl rfl (GR_skip rfl rfl rfl rfl rfl (by decide) rfl rfl (GR_skip rfl rfl rfl rfl rfl (by decide) rfl rfl (GR_skip rfl rfl rfl rfl rfl (by decide) rfl rfl (GR_skip rfl rfl rfl rfl rfl (by decide) rfl rfl (GR_skip rfl rfl rfl rfl rfl (by decide) rfl rfl (GR_skip rfl rfl rfl rfl rfl (by decide) rfl rfl (GR_skip rfl rfl rfl rfl rfl (by decide) rfl rfl (GR_skip rfl rfl rfl rfl rfl (by decide) rfl rfl (GR_nil)))))))))) ?_
                refine GT_skip rfl rfl rfl rfl rfl (by decide) rfl rfl ?_
                refine GT_skip rfl rfl rfl rfl rfl (by decide) rfl rfl ?_
                refine GT_skip rfl rfl rfl rfl rfl (by decide) rfl rfl ?_
                refine GT_st rfl rfl rfl rfl (V_pick_t rfl rfl rfl) ?_
                refine GT_nil ?_
                refine GE_cond_t rfl ?_
                refine GE_seq ?_
                refine GE_slots (L' := []) trivial ?_
                refine GE_plain (.st 0 .nil) rfl ?_
                refine GT_st rfl rfl rfl rfl (V_assign rfl rfl) ?_
                refine GT_nil ?_
                refine GE_ret Tryd.func53 rfl (fun w hw => ⟨?_, hw.nil⟩)
                first | (rw [decide_eq_false]; intro hP; have := hP.1 i hil; unfold posOk at this; omega) | (refine congrArg Value.bool (decide_eq_decide.2 ⟨fun h => ⟨fun j hj => hps j (by omega), h⟩, fun h => h.2⟩))
              · skip
                refine GT_st_g rfl rfl rfl rfl rfl rfl rfl (V_move rfl rfl) ?_
                refine GT_st_g rfl rfl rfl rfl rfl rfl rfl (V_gtr rfl rfl rfl) ?_
                refine GT_st_g rfl rfl rfl rfl rfl rfl rfl (V_move rfl rfl) ?_
                first | refine GT_splitNot (d := 62) rfl (fun q7 => ?_) (fun q7 => ?_) | refine GT_split (d := 62) rfl (fun q7 => ?_) (fun q7 => ?_) | refine GT_splitNotB (d := 62) rfl (fun q7 => ?_) (fun q7 => ?_) | refine GT_splitB (d := 62) rfl (fun q7 => ?_) (fun q7 => ?_)
                · skip
                  refine GT_st_g rfl rfl rfl rfl rfl rfl rfl (V_move rfl rfl) ?_
                  refine GT_st_g rfl rfl rfl rfl rfl rfl rfl (V_move rfl rfl) ?_
                  refine GT_st_g rfl rfl rfl rfl rfl rfl rfl (V_index rfl rfl rfl Tryd.underlying62 sz_3 (k := i) rfl hil (hy.isSome (k := i) (by omega))) ?_
                  refine GT_st_g rfl rfl rfl rfl rfl rfl rfl (V_load rfl rfl ag_3 (CellAt.own0 (k := i) hy eI_len (by omega) (by rw [bgns_get hil]; rfl))) ?_
                  refine GT_st_g rfl rfl rfl rfl rfl rfl rfl (V_move rfl rfl) ?_
                  refine GT_st_g rfl rfl rfl rfl rfl rfl rfl (V_move rfl rfl) ?_
                  refine GT_st_g rfl rfl rfl rfl rfl rfl rfl (V_sub rfl rfl rfl (wrap_i64 (by omega))) ?_
                  refine GT_st_g rfl rfl rfl rfl rfl rfl rfl (V_index rfl rfl rfl Tryd.underlying62 sz_3 (k := i - 2) (by omega) (by omega) (hy.isSome (k := i) (by omega))) ?_
                  refine GT_st_g rfl rfl rfl rfl rfl rfl rfl (V_load rfl rfl ag_3 (CellAt.own0 (k := i - 2) hy eI_len (by omega) (by rw [bgns_get (by omega)]; rfl))) ?_
                  refine GT_st_g rfl rfl rfl rfl rfl rfl rfl (V_move rfl rfl) ?_
                  refine GT_st_g rfl rfl rfl rfl rfl rfl rfl (V_move rfl rfl) ?_
                  refine GT_st_g rfl rfl rfl rfl rfl rfl rfl (V_sub rfl rfl rfl (wrap_i64 (by omega))) ?_
                  refine GT_st_g rfl rfl rfl rfl rfl rfl rfl (V_index rfl rfl rfl Tryd.underlying31 sz_30 (k := i - 2) (by omega) (by omega) (hp.isSome (k := i - 2) (by omega))) ?_
                  refine GT_st_g rfl rfl rfl rfl rfl rfl rfl (V_loadN (vs := [_, _, _, _, _, _, _]) rfl rfl ag_30 sz_30 rfl (show CellsAt _ _ _ (ePrt (pt p (i - 2))) from hp.ats noM (by omega))) ?_
                  refine GT_call0_g rfl rfl rfl rfl rfl rfl rfl rfl rfl rfl rfl rn_56 (fun w hw => C_rLong (x := pt p (i - 2)) (by omega)) (GR_cons_g rfl rfl rfl rfl rfl rfl rfl (V_move rfl rfl) (GR_cons_g rfl rfl rfl rfl rfl rfl rfl (V_move rfl rfl) (GR_cons_g rfl rfl rfl rfl rfl rfl rfl (V_index rfl rfl rfl Tryd.underlying62 sz_3 (k := i) rfl hil (hy.isSome (k := i) (by omega))) (GR_cons_g rfl rfl rfl rfl rfl rfl rfl (V_load rfl rfl ag_3 (CellAt.own0 (k := i) hy eI_len (by omega) (by rw [bgns_get hil]; rfl))) (GR_cons_g rfl rfl rfl rfl rfl rfl rfl (V_move rfl rfl) (GR_cons_g rfl rfl rfl rfl rfl rfl rfl (V_move rfl rfl) (GR_cons_g rfl rfl rfl rfl rfl rfl rfl (V_sub rfl rfl rfl (wrap_i64 (by omega))) (GR_cons_g rfl rfl rfl rfl rfl rfl rfl (V_index rfl rfl rfl Tryd.underlying62 sz_3 (k := i - 2) (by omega) (by omega) (hy.isSome (k := i) (by omega))) (GR_cons_g rfl rfl rfl rfl rfl rfl rfl (V_load rfl rfl ag_3 (CellAt.own0 (k := i - 2) hy eI_len (by omega) (by rw [bgns_get (by omega)]; rfl))) (GR_nil)))))))))) ?_
                  refine GT_st_g rfl rfl rfl rfl rfl rfl rfl (V_add rfl rfl rfl (wrap_i64 (by omega))) ?_
                  refine GT_st_g rfl rfl rfl rfl rfl rfl rfl (V_lss rfl rfl rfl) ?_
                  refine GT_st_g rfl rfl rfl rfl rfl rfl rfl (V_pick_t rfl rfl rfl) ?_
                  refine GT_st rfl rfl rfl rfl (V_pick_f rfl rfl rfl) ?_
                  refine GT_nil ?_
                  first | refine GE_condNot rfl (fun q8 => ?_) (fun q8 => ?_) | refine GE_cond rfl (fun q8 => ?_) (fun q8 => ?_) | refine GE_condNotB rfl (fun q8 => ?_) (fun q8 => ?_) | refine GE_condB rfl (fun q8 => ?_) (fun q8 => ?_)
                  · skip
                    refine GE_seq ?_
                    refine GE_slots (L' := []) trivial ?_
                    refine GE_plain (.st 0 .nil) rfl ?_
                    refine GT_st rfl rfl rfl rfl (V_assign rfl rfl) ?_
                    refine GT_nil ?_
                    refine GE_ret Tryd.func53 rfl (fun w hw => ⟨?_, hw.nil⟩)
                    rw [decide_eq_false]; intro hP; have := hP.1 i hil; unfold posOk at this; omega
                  · skip
                    refine GE_skip ?_
                    refine GE_inBlock ?_
                    refine GE_slots (L' := [(0, _), (3, _), (4, _), (5, _), (20, _), (21, _), (22, _), (23, _), (24, _), (27, _), (28, _), (29, _), (30, _), (31, _), (32, _), (33, _), (34, _), (35, _), (36, _), (37, _), (38, _), (39, _), (40, _), (41, _), (42, _), (43, _), (44, _), (45, _), (46, _), (47, _), (48, _), (49, _), (50, _), (51, _), (52, _), (53, _), (54, _), (55, _), (56, _), (57, _), (60, _), (61, _), (62, _), (63, _), (64, _), (65, _), (66, _), (67, _), (68, _), (69, _), (70, _), (71, _), (72, _), (73, _), (74, _), (75, _), (76, _), (77, _), (78, _), (79, _), (80, _)]) ⟨rfl, rfl, rfl, rfl, rfl, rfl, rfl, rfl, rfl, rfl, rfl, rfl, rfl, rfl, rfl, rfl, rfl, rfl, rfl, rfl, rfl, rfl, rfl, rfl, rfl, rfl, rfl, rfl, rfl, rfl, rfl, rfl, rfl, rfl, rfl, rfl, rfl, rfl, rfl, rfl, rfl, rfl, rfl, rfl, rfl, rfl, rfl, rfl, rfl, rfl, rfl, rfl, rfl, rfl, rfl, rfl, rfl, rfl, rfl, rfl, rfl, trivial⟩ ?_
                    refine GE_plain (.st 0 (.st 1 (.ld 2 [] .nil))) rfl ?_
                    refine GT_st rfl rfl rfl rfl (V_move rfl rfl) ?_
                    refine GT_st rfl rfl rfl rfl (V_add rfl rfl rfl (wrap_i64 (by omega))) ?_
                    refine GT_ldv rfl rfl rfl rfl rfl (V_assign rfl rfl) (GR_nil) ?_
                    refine GT_nil ?_
                    exact GE_to (ih (i + 1) ⟨by omega, fun j hj => by rcases Nat.lt_or_ge j i with r | r; exact hps j r; rw [show j = i by omega]; unfold posOk; omega⟩ (by omega)) ⟨rfl, rfl, rfl, rfl, trivial⟩ HS.all
                · skip
                  refine GT_skip rfl rfl rfl rfl rfl (by decide) rfl rfl ?_
                  refine GT_skip rfl rfl rfl rfl rfl (by decide) rfl rfl ?_
                  refine GT_skip rfl rfl rfl rfl rfl (by decide) rfl rfl ?_
                  refine GT_skip rfl rfl rfl rfl rfl (by decide) rfl rfl ?_
                  refine GT_skip rfl rfl rfl rfl rfl (by decide) rfl rfl ?_
                  refine GT_skip rfl rfl rfl rfl rfl (by decide) rfl rfl ?_
                  refine GT_skip rfl rfl rfl rfl rfl (by decide) rfl rfl ?_
                  refine GT_skip rfl rfl rfl rfl rfl (by decide) rfl rfl ?_
                  refine GT_skip rfl rfl rfl rfl rfl (by decide) rfl rfl ?_
                  refine GT_skip rfl rfl rfl rfl rfl (by decide) rfl rfl ?_
                  refine GT_skip rfl rfl rfl rfl rfl (by decide) rfl rfl ?_
                  refine GT_skip rfl rfl rfl rfl rfl (by decide) rfl rfl ?_
                  refine GT_skip rfl rfl rfl rfl rfl (by decide) rfl rfl ?_
                  refine GT_skip rfl rfl rfl rfl rfl (by decide) rfl rfl ?_
                  refine GT_skip_ld rfl rfl rfl rfl rfl (by decide) rfl rfl rfl (GR_skip rfl rfl rfl rfl rfl (by decide) rfl rfl (GR_skip rfl rfl rfl rfl rfl (by decide) rfl rfl (GR_skip rfl rfl rfl rfl rfl (by decide) rfl rfl (GR_skip rfl rfl rfl rfl rfl (by decide) rfl rfl (GR_skip rfl rfl rfl rfl rfl (by decide) rfl rfl (GR_skip rfl rfl rfl rfl rfl (by decide) rfl rfl (GR_skip rfl rfl rfl rfl rfl (by decide) rfl rfl (GR_skip rfl rfl rfl rfl rfl (by decide) rfl rfl (GR_skip rfl rfl rfl rfl rfl (by decide) rfl rfl (GR_nil)))))))))) ?_
                  refine GT_skip rfl rfl rfl rfl rfl (by decide) rfl rfl ?_
                  refine GT_skip rfl rfl rfl rfl rfl (by decide) rfl rfl ?_
                  refine GT_st_g rfl rfl rfl rfl rfl rfl rfl (V_pick_f rfl rfl rfl) ?_
                  refine GT_st rfl rfl rfl rfl (V_pick_f rfl rfl rfl) ?_
                  refine GT_nil ?_
                  refine GE_cond_f rfl ?_
                  refine GE_skip ?_
                  refine GE_inBlock ?_
                  refine GE_slots (L' := [(0, _), (3, _), (4, _), (5, _), (20, _), (21, _), (22, _), (23, _), (24, _), (27, _), (28, _), (29, _), (30, _), (31, _), (32, _), (33, _), (34, _), (35, _), (36, _), (37, _), (38, _), (39, _), (40, _), (41, _), (42, _), (43, _), (44, _), (45, _), (46, _), (47, _), (48, _), (49, _), (50, _), (51, _), (52, _), (53, _), (54, _), (55, _), (56, _), (57, _), (60, _), (61, _), (62, _), (63, _), (64, _), (65, _), (66, _), (67, _), (68, _), (69, _), (70, _), (71, _), (72, _), (73, _), (74, _), (75, _), (76, _), (77, _), (78, _), (79, _), (80, _)]) ⟨rfl, rfl, rfl, rfl, rfl, rfl, rfl, rfl, rfl, rfl, rfl, rfl, rfl, rfl, rfl, rfl, rfl, rfl, rfl, rfl, rfl, rfl, rfl, rfl, rfl, rfl, rfl, rfl, rfl, rfl, rfl, rfl, rfl, rfl, rfl, rfl, rfl, rfl, rfl, rfl, rfl, rfl, rfl, rfl, rfl, rfl, rfl, rfl, rfl, rfl, rfl, rfl, rfl, rfl, rfl, rfl, rfl, rfl, rfl, rfl, rfl, trivial⟩ ?_
                  refine GE_plain (.st 0 (.st 1 (.ld 2 [] .nil))) rfl ?_
                  refine GT_st rfl rfl rfl rfl (V_move rfl rfl) ?_
                  refine GT_st rfl rfl rfl rfl (V_add rfl rfl rfl (wrap_i64 (by omega))) ?_
                  refine GT_ldv rfl rfl rfl rfl rfl (V_assign rfl rfl) (GR_nil) ?_
                  refine GT_nil ?_
                  exact GE_to (ih (i + 1) ⟨by omega, fun j hj => by rcases Nat.lt_or_ge j i with r | r; exact hps j r; rw [show j = i by omega]; unfold posOk; omega⟩ (by omega)) ⟨rfl, rfl, rfl, rfl, trivial⟩ HS.all
          · skip
            refine GT_skip rfl rfl rfl rfl rfl (by decide) rfl rfl ?_
            refine GT_skip rfl rfl rfl rfl rfl (by decide) rfl rfl ?_
            refine GT_skip rfl rfl rfl rfl rfl (by decide) rfl rfl ?_
            refine GT_skip rfl rfl rfl rfl rfl (by decide) rfl rfl ?_
            refine GT_skip rfl rfl rfl rfl rfl (by decide) rfl rfl ?_
            refine GT_skip rfl rfl rfl rfl rfl (by decide) rfl rfl ?_
            refine GT_skip rfl rfl rfl rfl rfl (by decide) rfl rfl ?_
            refine GT_skip rfl rfl rfl rfl rfl (by decide) rfl rfl ?_
            refine GT_skip rfl rfl rfl rfl rfl (by decide) rfl rfl ?_
            refine GT_skip_ld rfl rfl rfl rfl rfl (by decide) rfl rfl rfl (GR_skip rfl rfl rfl rfl rfl (by decide) rfl rfl (GR_skip rfl rfl rfl rfl rfl (by decide) rfl rfl (GR_skip rfl rfl rfl rfl rfl (by decide) rfl rfl (GR_skip rfl rfl rfl rfl rfl (by decide) rfl rfl (GR_skip rfl rfl rfl rfl rfl (by decide) rfl rfl (GR_nil)))))) ?_
            refine GT_skip rfl rfl rfl rfl rfl (by decide) rfl rfl ?_
            refine GT_skip rfl rfl rfl rfl rfl (by decide) rfl rfl ?_
            refine GT_skip rfl rfl rfl rfl rfl (by decide) rfl rfl ?_
            refine GT_skip rfl rfl rfl rfl rfl (by decide) rfl rfl ?_
            refine GT_skip rfl rfl rfl rfl rfl (by decide) rfl rfl ?_
            refine GT_skip rfl rfl rfl rfl rfl (by decide) rfl rfl ?_
            refine GT_skip rfl rfl rfl rfl rfl (by decide) rfl rfl ?_
            refine GT_skip rfl rfl rfl rfl rfl (by decide) rfl rfl ?_
            refine GT_skip rfl rfl rfl rfl rfl (by decide) rfl rfl ?_
            refine GT_skip rfl rfl rfl rfl rfl (by decide) rfl rfl ?_
            refine GT_skip rfl rfl rfl rfl rfl (by decide) rfl rfl ?_
            refine GT_skip rfl rfl rfl rfl rfl (by decide) rfl rfl ?_
            refine GT_skip rfl rfl rfl rfl rfl (by decide) rfl rfl ?_
            refine GT_skip_ld rfl rfl rfl rfl rfl (by decide) rfl rfl rfl (GR_skip rfl rfl rfl rfl rfl (by decide) rfl rfl (GR_skip rfl rfl rfl rfl rfl (by decide) rfl rfl (GR_skip rfl rfl rfl rfl rfl (by decide) rfl rfl (GR_skip rfl rfl rfl rfl rfl (by decide) rfl rfl (GR_skip rfl rfl rfl rfl rfl (by decide) rfl rfl (GR_nil)))))) ?_
            refine GT_skip rfl rfl rfl rfl rfl (by decide) rfl rfl ?_
            refine GT_skip rfl rfl rfl rfl rfl (by decide) rfl rfl ?_
            refine GT_skip rfl rfl rfl rfl rfl (by decide) rfl rfl ?_
            refine GT_st_g rfl rfl rfl rfl rfl rfl rfl (V_pick_f rfl rfl rfl) ?_
            refine GT_st rfl rfl rfl rfl (V_pick_f rfl rfl rfl) ?_
            refine GT_st rfl rfl rfl rfl (V_move rfl rfl) ?_
            refine GT_st_g rfl rfl rfl rfl rfl rfl rfl (V_move rfl rfl) ?_
            refine GT_st_g rfl rfl rfl rfl rfl rfl rfl (V_gtr rfl rfl rfl) ?_
            refine GT_st_g rfl rfl rfl rfl rfl rfl rfl (V_move rfl rfl) ?_
            first | refine GT_splitNot (d := 62) rfl (fun q7 => ?_) (fun q7 => ?_) | refine GT_split (d := 62) rfl (fun q7 => ?_) (fun q7 => ?_) | refine GT_splitNotB (d := 62) rfl (fun q7 => ?_) (fun q7 => ?_) | refine GT_splitB (d := 62) rfl (fun q7 => ?_) (fun q7 => ?_)
            · skip
              refine GT_st_g rfl rfl rfl rfl rfl rfl rfl (V_move rfl rfl) ?_
              refine GT_st_g rfl rfl rfl rfl rfl rfl rfl (V_move rfl rfl) ?_
              refine GT_st_g rfl rfl rfl rfl rfl rfl rfl (V_index rfl rfl rfl Tryd.underlying62 sz_3 (k := i) rfl hil (hy.isSome (k := i) (by omega))) ?_
              refine GT_st_g rfl rfl rfl rfl rfl rfl rfl (V_load rfl rfl ag_3 (CellAt.own0 (k := i) hy eI_len (by omega) (by rw [bgns_get hil]; rfl))) ?_
              refine GT_st_g rfl rfl rfl rfl rfl rfl rfl (V_move rfl rfl) ?_
              refine GT_st_g rfl rfl rfl rfl rfl rfl rfl (V_move rfl rfl) ?_
              refine GT_st_g rfl rfl rfl rfl rfl rfl rfl (V_sub rfl rfl rfl (wrap_i64 (by omega))) ?_
              refine GT_st_g rfl rfl rfl rfl rfl rfl rfl (V_index rfl rfl rfl Tryd.underlying62 sz_3 (k := i - 2) (by omega) (by omega) (hy.isSome (k := i) (by omega))) ?_
              refine GT_st_g rfl rfl rfl rfl rfl rfl rfl (V_load rfl rfl ag_3 (CellAt.own0 (k := i - 2) hy eI_len (by omega) (by rw [bgns_get (by omega)]; rfl))) ?_
              refine GT_st_g rfl rfl rfl rfl rfl rfl rfl (V_move rfl rfl) ?_
              refine GT_st_g rfl rfl rfl rfl rfl rfl rfl (V_move rfl rfl) ?_
              refine GT_st_g rfl rfl rfl rfl rfl rfl rfl (V_sub rfl rfl rfl (wrap_i64 (by omega))) ?_
              refine GT_st_g rfl rfl rfl rfl rfl rfl rfl (V_index rfl rfl rfl Tryd.underlying31 sz_30 (k := i - 2) (by omega) (by omega) (hp.isSome (k := i - 2) (by omega))) ?_
              refine GT_st_g rfl rfl rfl rfl rfl rfl rfl (V_loadN (vs := [_, _, _, _, _, _, _]) rfl rfl ag_30 sz_30 rfl (show CellsAt _ _ _ (ePrt (pt p (i - 2))) from hp.ats noM (by omega))) ?_
              refine GT_call0_g rfl rfl rfl rfl rfl rfl rfl rfl rfl rfl rfl rn_56 (fun w hw => C_rLong (x := pt p (i - 2)) (by omega)) (GR_cons_g rfl rfl rfl rfl rfl rfl rfl (V_move rfl rfl) (GR_cons_g rfl rfl rfl rfl rfl rfl rfl (V_move rfl rfl) (GR_cons_g rfl rfl rfl rfl rfl rfl rfl (V_index rfl rfl rfl Tryd.underlying62 sz_3 (k := i) rfl hil (hy.isSome (k := i) (by omega))) (GR_cons_g rfl rfl rfl rfl rfl rfl rfl (V_load rfl rfl ag_3 (CellAt.own0 (k := i) hy eI_len (by omega) (by rw [bgns_get hil]; rfl))) (GR_cons_g rfl rfl rfl rfl rfl rfl rfl (V_move rfl rfl) (GR_cons_g rfl rfl rfl rfl rfl rfl rfl (V_move rfl rfl) (GR_cons_g rfl rfl rfl rfl rfl rfl rfl (V_sub rfl rfl rfl (wrap_i64 (by omega))) (GR_cons_g rfl rfl rfl rfl rfl rfl rfl (V_index rfl rfl rfl Tryd.underlying62 sz_3 (k := i - 2) (by omega) (by omega) (hy.isSome (k := i) (by omega))) (GR_cons_g rfl rfl rfl rfl rfl rfl rfl (V_load rfl rfl ag_3 (CellAt.own0 (k := i - 2) hy eI_len (by omega) (by rw [bgns_get (by omega)]; rfl))) (GR_nil)))))))))) ?_
              refine GT_st_g rfl rfl rfl rfl rfl rfl rfl (V_add rfl rfl rfl (wrap_i64 (by omega))) ?_
              refine GT_st_g rfl rfl rfl rfl rfl rfl rfl (V_lss rfl rfl rfl) ?_
              refine GT_st_g rfl rfl rfl rfl rfl rfl rfl (V_pick_t rfl rfl rfl) ?_
              refine GT_st rfl rfl rfl rfl (V_pick_f rfl rfl rfl) ?_
              refine GT_nil ?_
              first | refine GE_condNot rfl (fun q8 => ?_) (fun q8 => ?_) | refine GE_cond rfl (fun q8 => ?_) (fun q8 => ?_) | refine GE_condNotB rfl (fun q8 => ?_) (fun q8 => ?_) | refine GE_condB rfl (fun q8 => ?_) (fun q8 => ?_)
              · skip
                refine GE_seq ?_
                refine GE_slots (L' := []) trivial ?_
                refine GE_plain (.st 0 .nil) rfl ?_
                refine GT_st rfl rfl rfl rfl (V_assign rfl rfl) ?_
                refine GT_nil ?_
                refine GE_ret Tryd.func53 rfl (fun w hw => ⟨?_, hw.nil⟩)
                rw [decide_eq_false]; intro hP; have := hP.1 i hil; unfold posOk at this; omega
              · skip
                refine GE_skip ?_
                refine GE_inBlock ?_
                refine GE_slots (L' := [(0, _), (3, _), (4, _), (5, _), (20, _), (21, _), (22, _), (23, _), (24, _), (27, _), (28, _), (29, _), (30, _), (31, _), (32, _), (33, _), (34, _), (35, _), (36, _), (37, _), (38, _), (39, _), (40, _), (41, _), (42, _), (43, _), (44, _), (45, _), (46, _), (47, _), (48, _), (49, _), (50, _), (51, _), (52, _), (53, _), (54, _), (55, _), (56, _), (57, _), (60, _), (61, _), (62, _), (63, _), (64, _), (65, _), (66, _), (67, _), (68, _), (69, _), (70, _), (71, _), (72, _), (73, _), (74, _), (75, _), (76, _), (77, _), (78, _), (79, _), (80, _)]) ⟨rfl, rfl, rfl, rfl, rfl, rfl, rfl, rfl, rfl, rfl, rfl, rfl, rfl, rfl, rfl, rfl, rfl, rfl, rfl, rfl, rfl, rfl, rfl, rfl, rfl, rfl, rfl, rfl, rfl, rfl, rfl, rfl, rfl, rfl, rfl, rfl, rfl, rfl, rfl, rfl, rfl, rfl, rfl, rfl, rfl, rfl, rfl, rfl, rfl, rfl, rfl, rfl, rfl, rfl, rfl, rfl, rfl, rfl, rfl, rfl, rfl, trivial⟩ ?_
                refine GE_plain (.st 0 (.st 1 (.ld 2 [] .nil))) rfl ?_
                refine GT_st rfl rfl rfl rfl (V_move rfl rfl) ?_
                refine GT_st rfl rfl rfl rfl (V_add rfl rfl rfl (wrap_i64 (by omega))) ?_
                refine GT_ldv rfl rfl rfl rfl rfl (V_assign rfl rfl) (GR_nil) ?_
                refine GT_nil ?_
                exact GE_to (ih (i + 1) ⟨by omega, fun j hj => by rcases Nat.lt_or_ge j i with r | r; exact hps j r; rw [show j = i by omega]; unfold posOk; omega⟩ (by omega)) ⟨rfl, rfl, rfl, rfl, trivial⟩ HS.all
            · skip
              refine GT_skip rfl rfl rfl rfl rfl (by decide) rfl rfl ?_
              refine GT_skip rfl rfl rfl rfl rfl (by decide) rfl rfl ?_
              refine GT_skip rfl rfl rfl rfl rfl (by decide) rfl rfl ?_
              refine GT_skip rfl rfl rfl rfl rfl (by decide) rfl rfl ?_
              refine GT_skip rfl rfl rfl rfl rfl (by decide) rfl rfl ?_
              refine GT_skip rfl rfl rfl rfl rfl (by decide) rfl rfl ?_
              refine GT_skip rfl rfl rfl rfl rfl (by decide) rfl rfl ?_
              refine GT_skip rfl rfl rfl rfl rfl (by decide) rfl rfl ?_
              refine GT_skip rfl rfl rfl rfl rfl (by decide) rfl rfl ?_
              refine GT_skip rfl rfl rfl rfl rfl (by decide) rfl rfl ?_
              refine GT_skip rfl rfl rfl rfl rfl (by decide) rfl rfl ?_
              refine GT_skip rfl rfl rfl rfl rfl (by decide) rfl rfl ?_
              refine GT_skip rfl rfl rfl rfl rfl (by decide) rfl rfl ?_
              refine GT_skip rfl rfl rfl rfl rfl (by decide) rfl rfl ?_
              refine GT_skip_ld rfl rfl rfl rfl rfl (by decide) rfl rfl rfl (GR_skip rfl rfl rfl rfl rfl (by decide) rfl rfl (GR_skip rfl rfl rfl rfl rfl (by decide) rfl rfl (GR_skip rfl rfl rfl rfl rfl (by decide) rfl rfl (GR_skip rfl rfl rfl rfl rfl (by decide) rfl rfl (GR_skip rfl rfl rfl rfl rfl (by decide) rfl rfl (GR_skip rfl rfl rfl rfl rfl (by decide) rfl rfl (GR_skip rfl rfl rfl rfl rfl (by decide) rfl rfl (GR_skip rfl rfl rfl rfl rfl (by decide) rfl rfl (GR_skip rfl rfl rfl rfl rfl (by decide) rfl rfl (GR_nil)))))))))) ?_
              refine GT_skip rfl rfl rfl rfl rfl (by decide) rfl rfl ?_
              refine GT_skip rfl rfl rfl rfl rfl (by decide) rfl rfl ?_
              refine GT_st_g rfl rfl rfl rfl rfl rfl rfl (V_pick_f rfl rfl rfl) ?_
              refine GT_st rfl rfl rfl rfl (V_pick_f rfl rfl rfl) ?_
              refine GT_nil ?_
              refine GE_cond_f rfl ?_
              refine GE_skip ?_
              refine GE_inBlock ?_
              refine GE_slots (L' := [(0, _), (3, _), (4, _), (5, _), (20, _), (21, _), (22, _), (23, _), (24, _), (27, _), (28, _), (29, _), (30, _), (31, _), (32, _), (33, _), (34, _), (35, _), (36, _), (37, _), (38, _), (39, _), (40, _), (41, _), (42, _), (43, _), (44, _), (45, _), (46, _), (47, _), (48, _), (49, _), (50, _), (51, _), (52, _), (53, _), (54, _), (55, _), (56, _), (57, _), (60, _), (61, _), (62, _), (63, _), (64, _), (65, _), (66, _), (67, _), (68, _), (69, _), (70, _), (71, _), (72, _), (73, _), (74, _), (75, _), (76, _), (77, _), (78, _), (79, _), (80, _)]) ⟨rfl, rfl, rfl, rfl, rfl, rfl, rfl, rfl, rfl, rfl, rfl, rfl, rfl, rfl, rfl, rfl, rfl, rfl, rfl, rfl, rfl, rfl, rfl, rfl, rfl, rfl, rfl, rfl, rfl, rfl, rfl, rfl, rfl, rfl, rfl, rfl, rfl, rfl, rfl, rfl, rfl, rfl, rfl, rfl, rfl, rfl, rfl, rfl, rfl, rfl, rfl, rfl, rfl, rfl, rfl, rfl, rfl, rfl, rfl, rfl, rfl, trivial⟩ ?_
              refine GE_plain (.st 0 (.st 1 (.ld 2 [] .nil))) rfl ?_
              refine GT_st rfl rfl rfl rfl (V_move rfl rfl) ?_
              refine GT_st rfl rfl rfl rfl (V_add rfl rfl rfl (wrap_i64 (by omega))) ?_
              refine GT_ldv rfl rfl rfl rfl rfl (V_assign rfl rfl) (GR_nil) ?_
              refine GT_nil ?_
              exact GE_to (ih (i + 1) ⟨by omega, fun j hj => by rcases Nat.lt_or_ge j i with r | r; exact hps j r; rw [show j = i by omega]; unfold posOk; omega⟩ (by omega)) ⟨rfl, rfl, rfl, rfl, trivial⟩ HS.all
      · skip
        refine GT_skip rfl rfl rfl rfl rfl (by decide) rfl rfl ?_
        refine GT_skip rfl rfl rfl rfl rfl (by decide) rfl rfl ?_
        refine GT_skip rfl rfl rfl rfl rfl (by decide) rfl rfl ?_
        refine GT_skip rfl rfl rfl rfl rfl (by decide) rfl rfl ?_
        refine GT_skip rfl rfl rfl rfl rfl (by decide) rfl rfl ?_
        refine GT_st rfl rfl rfl rfl (V_pick_f rfl rfl rfl) ?_
        refine GT_st rfl rfl rfl rfl (V_move rfl rfl) ?_
        refine GT_st_g rfl rfl rfl rfl rfl rfl rfl (V_move rfl rfl) ?_
        refine GT_st_g rfl rfl rfl rfl rfl rfl rfl (V_gtr rfl rfl rfl) ?_
        refine GT_st_g rfl rfl rfl rfl rfl rfl rfl (V_move rfl rfl) ?_
        first | refine GT_splitNot (d := 29) rfl (fun q4 => ?_) (fun q4 => ?_) | refine GT_split (d := 29) rfl (fun q4 => ?_) (fun q4 => ?_) | refine GT_splitNotB (d := 29) rfl (fun q4 => ?_) (fun q4 => ?_) | refine GT_splitB (d := 29) rfl (fun q4 => ?_) (fun q4 => ?_)
        · skip
          refine GT_st_g rfl rfl rfl rfl rfl rfl rfl (V_move rfl rfl) ?_
          refine GT_st_g rfl rfl rfl rfl rfl rfl rfl (V_move rfl rfl) ?_
          refine GT_st_g rfl rfl rfl rfl rfl rfl rfl (V_index rfl rfl rfl Tryd.underlying31 sz_30 (k := i) rfl hil (hp.isSome hil)) ?_
          first | refine GT_st_g rfl rfl rfl rfl rfl rfl rfl (V_field rfl rfl fo_30_3) ?_ | refine GT_st_g rfl rfl rfl rfl rfl rfl rfl (V_fieldA rfl rfl fo_30_3) ?_
          refine GT_st_g rfl rfl rfl rfl rfl rfl rfl (V_load rfl rfl ag_3 (hp.at1 noM hil (show _ = some (I (pt p i).gap) from rfl))) ?_
          refine GT_st_g rfl rfl rfl rfl rfl rfl rfl (V_move rfl rfl) ?_
          refine GT_st_g rfl rfl rfl rfl rfl rfl rfl (V_move rfl rfl) ?_
          refine GT_st_g rfl rfl rfl rfl rfl rfl rfl (V_index rfl rfl rfl Tryd.underlying31 sz_30 (k := i) rfl hil (hp.isSome hil)) ?_
          refine GT_st_g rfl rfl rfl rfl rfl rfl rfl (V_loadN (vs := [_, _, _, _, _, _, _]) rfl rfl ag_30 sz_30 rfl (show CellsAt _ _ _ (ePrt (pt p i)) from hp.ats noM hil)) ?_
          refine GT_call0_g rfl rfl rfl rfl rfl rfl rfl rfl rfl rfl rfl rn_56 (fun w hw => C_rLong (x := pt p i) (by omega)) (GR_cons_g rfl rfl rfl rfl rfl rfl rfl (V_move rfl rfl) (GR_cons_g rfl rfl rfl rfl rfl rfl rfl (V_move rfl rfl) (GR_cons_g rfl rfl rfl rfl rfl rfl rfl (V_index rfl rfl rfl Tryd.underlying31 sz_30 (k := i) rfl hil (hp.isSome hil)) (GR_cons_g rfl rfl rfl rfl rfl rfl rfl ((by first | exact V_field rfl rfl fo_30_3 | exact V_fieldA rfl rfl fo_30_3)) (GR_cons_g rfl rfl rfl rfl rfl rfl rfl (V_load rfl rfl ag_3 (hp.at1 noM hil (show _ = some (I (pt p i).gap) from rfl))) (GR_nil)))))) ?_
          refine GT_st_g rfl rfl rfl rfl rfl rfl rfl (V_neg rfl rfl (wrap_i64 (by omega))) ?_
          refine GT_st_g rfl rfl rfl rfl rfl rfl rfl (V_lss rfl rfl rfl) ?_
          refine GT_st_g rfl rfl rfl rfl rfl rfl rfl (V_move rfl rfl) ?_
          first | refine GT_splitNot (d := 42) rfl (fun q5 => ?_) (fun q5 => ?_) | refine GT_split (d := 42) rfl (fun q5 => ?_) (fun q5 => ?_) | refine GT_splitNotB (d := 42) rfl (fun q5 => ?_) (fun q5 => ?_) | refine GT_splitB (d := 42) rfl (fun q5 => ?_) (fun q5 => ?_)
          · skip
            refine GT_skip rfl rfl rfl rfl rfl (by decide) rfl rfl ?_
            refine GT_skip rfl rfl rfl rfl rfl (by decide) rfl rfl ?_
            refine GT_skip rfl rfl rfl rfl rfl (by decide) rfl rfl ?_
            refine GT_skip rfl rfl rfl rfl rfl (by decide) rfl rfl ?_
            refine GT_skip rfl rfl rfl rfl rfl (by decide) rfl rfl ?_
            refine GT_skip rfl rfl rfl rfl rfl (by decide) rfl rfl ?_
            refine GT_skip rfl rfl rfl rfl rfl (by decide) rfl rfl ?_
            refine GT_skip rfl rfl rfl rfl rfl (by decide) rfl rfl ?_
            refine GT_skip rfl rfl rfl rfl rfl (by decide) rfl rfl ?_
            refine GT_skip rfl rfl rfl rfl rfl (by decide) rfl rfl ?_
            refine GT_skip_ld rfl rfl rfl rfl rfl (by decide) rfl rfl rfl (GR_skip rfl rfl rfl rfl rfl (by decide) rfl rfl (GR_skip rfl rfl rfl rfl rfl (by decide) rfl rfl (GR_skip rfl rfl rfl rfl rfl (by decide) rfl rfl (GR_skip rfl rfl rfl rfl rfl (by decide) rfl rfl (GR_skip rfl rfl rfl rfl rfl (by decide) rfl rfl (GR_nil)))))) ?_
            refine GT_skip rfl rfl rfl rfl rfl (by decide) rfl rfl ?_
            refine GT_skip rfl rfl rfl rfl rfl (by decide) rfl rfl ?_
            refine GT_st_g rfl rfl rfl rfl rfl rfl rfl (V_pick_t rfl rfl rfl) ?_
            refine GT_st_g rfl rfl rfl rfl rfl rfl rfl (V_pick_t rfl rfl rfl) ?_
            refine GT_st rfl rfl rfl rfl (V_pick_f rfl rfl rfl) ?_
            refine GT_st rfl rfl rfl rfl (V_move rfl rfl) ?_
            refine GT_skip rfl rfl rfl rfl rfl (by decide) rfl rfl ?_
            refine GT_skip rfl rfl rfl rfl rfl (by decide) rfl rfl ?_
            refine GT_skip rfl rfl rfl rfl rfl (by decide) rfl rfl ?_
            refine GT_skip rfl rfl rfl rfl rfl (by decide) rfl rfl ?_
            refine GT_skip rfl rfl rfl rfl rfl (by decide) rfl rfl ?_
            refine GT_skip rfl rfl rfl rfl rfl (by decide) rfl rfl ?_
            refine GT_skip rfl rfl rfl rfl rfl (by decide) rfl rfl ?_
            refine GT_skip rfl rfl rfl rfl rfl (by decide) rfl rfl ?_
            refine GT_skip rfl rfl rfl rfl rfl (by decide) rfl rfl ?_
            refine GT_skip rfl rfl rfl rfl rfl (by decide) rfl rfl ?_
            refine GT_skip rfl rfl rfl rfl rfl (by decide) rfl rfl ?_
            refine GT_skip rfl rfl rfl rfl rfl (by decide) rfl rfl ?_
            refine GT_skip rfl rfl rfl rfl rfl (by decide) rfl rfl ?_
            refine GT_skip rfl rfl rfl rfl rfl (by decide) rfl rfl ?_
            refine GT_skip rfl rfl rfl rfl rfl (by decide) rfl rfl ?_
            refine GT_skip rfl rfl rfl rfl rfl (by decide) rfl rfl ?_
            refine GT_skip rfl rfl rfl rfl rfl (by decide) rfl rfl ?_
            refine GT_skip_ld rfl rfl rfl rfl rfl (by decide) rfl rfl rfl (GR_skip rfl rfl rfl rfl rfl (by decide) rfl rfl (GR_skip rfl rfl rfl rfl rfl (by decide) rfl rfl (GR_skip rfl rfl rfl rfl rfl (by decide) rfl rfl (GR_skip rfl rfl rfl rfl rfl (by decide) rfl rfl (GR_skip rfl rfl rfl rfl rfl (by decide) rfl rfl (GR_skip rfl rfl rfl rfl rfl (by decide) rfl rfl (GR_skip rfl rfl rfl rfl rfl (by decide) rfl rfl (GR_skip rfl rfl rfl rfl rfl (by decide) rfl rfl (GR_skip rfl rfl rfl rfl rfl (by decide) rfl rfl (GR_nil)))))))))) ?_
            refine GT_skip rfl rfl rfl rfl rfl (by decide) rfl rfl ?_
            refine GT_skip rfl rfl rfl rfl rfl (by decide) rfl rfl ?_
            refine GT_skip rfl rfl rfl rfl rfl (by decide) rfl rfl ?_
            refine GT_st rfl rfl rfl rfl (V_pick_t rfl rfl rfl) ?_
            refine GT_nil ?_
            refine GE_cond_t rfl ?_
            refine GE_seq ?_
            refine GE_slots (L' := []) trivial ?_
            refine GE_plain (.st 0 .nil) rfl ?_
            refine GT_st rfl rfl rfl rfl (V_assign rfl rfl) ?_
            refine GT_nil ?_
            refine GE_ret Tryd.func53 rfl (fun w hw => ⟨?_, hw.nil⟩)
            first | (rw [decide_eq_false]; intro hP; have := hP.1 i hil; unfold posOk at this; omega) | (refine congrArg Value.bool (decide_eq_decide.2 ⟨fun h => ⟨fun j hj => hps j (by omega), h⟩, fun h => h.2⟩))
          · skip
            refine GT_st_g rfl rfl rfl rfl rfl rfl rfl (V_move rfl rfl) ?_
            refine GT_st_g rfl rfl rfl rfl rfl rfl rfl (V_move rfl rfl) ?_
            refine GT_st_g rfl rfl rfl rfl rfl rfl rfl (V_index rfl rfl rfl Tryd.underlying31 sz_30 (k := i) rfl hil (hp.isSome hil)) ?_
            first | refine GT_st_g rfl rfl rfl rfl rfl rfl rfl (V_field rfl rfl fo_30_3) ?_ | refine GT_st_g rfl rfl rfl rfl rfl rfl rfl (V_fieldA rfl rfl fo_30_3) ?_
            refine GT_st_g rfl rfl rfl rfl rfl rfl rfl (V_load rfl rfl ag_3 (hp.at1 noM hil (show _ = some (I (pt p i).gap) from rfl))) ?_
            refine GT_st_g rfl rfl rfl rfl rfl rfl rfl (V_move rfl rfl) ?_
            refine GT_st_g rfl rfl rfl rfl rfl rfl rfl (V_move rfl rfl) ?_
            refine GT_st_g rfl rfl rfl rfl rfl rfl rfl (V_sub rfl rfl rfl (wrap_i64 (by omega))) ?_
            refine GT_st_g rfl rfl rfl rfl rfl rfl rfl (V_index rfl rfl rfl Tryd.underlying31 sz_30 (k := i - 1) (by omega) (by omega) (hp.isSome (k := i - 1) (by omega))) ?_
            refine GT_st_g rfl rfl rfl rfl rfl rfl rfl (V_loadN (vs := [_, _, _, _, _, _, _]) rfl rfl ag_30 sz_30 rfl (show CellsAt _ _ _ (ePrt (pt p (i - 1))) from hp.ats noM (by omega))) ?_
            refine GT_call0_g rfl rfl rfl rfl rfl rfl rfl rfl rfl rfl rfl rn_56 (fun w hw => C_rLong (x := pt p (i - 1)) (by omega)) (GR_cons_g rfl rfl rfl rfl rfl rfl rfl (V_move rfl rfl) (GR_cons_g rfl rfl rfl rfl rfl rfl rfl (V_move rfl rfl) (GR_cons_g rfl rfl rfl rfl rfl rfl rfl (V_index rfl rfl rfl Tryd.underlying31 sz_30 (k := i) rfl hil (hp.isSome hil)) (GR_cons_g rfl rfl rfl rfl rfl rfl rfl ((by first | exact V_field rfl rfl fo_30_3 | exact V_fieldA rfl rfl fo_30_3)) (GR_cons_g rfl rfl rfl rfl rfl rfl rfl (V_load rfl rfl ag_3 (hp.at1 noM hil (show _ = some (I (pt p i).gap) from rfl))) (GR_nil)))))) ?_
            refine GT_st_g rfl rfl rfl rfl rfl rfl rfl (V_neg rfl rfl (wrap_i64 (by omega))) ?_
            refine GT_st_g rfl rfl rfl rfl rfl rfl rfl (V_lss rfl rfl rfl) ?_
            refine GT_st_g rfl rfl rfl rfl rfl rfl rfl (V_pick_f rfl rfl rfl) ?_
            refine GT_st_g rfl rfl rfl rfl rfl rfl rfl (V_pick_t rfl rfl rfl) ?_
            refine GT_st rfl rfl rfl rfl (V_pick_f rfl rfl rfl) ?_
            refine GT_st rfl rfl rfl rfl (V_move rfl rfl) ?_
            first | refine GT_splitNot (d := 59) rfl (fun q6 => ?_) (fun q6 => ?_) | refine GT_split (d := 59) rfl (fun q6 => ?_) (fun q6 => ?_) | refine GT_splitNotB (d := 59) rfl (fun q6 => ?_) (fun q6 => ?_) | refine GT_splitB (d := 59) rfl (fun q6 => ?_) (fun q6 => ?_)
            · skip
              refine GT_skip rfl rfl rfl rfl rfl (by decide) rfl rfl ?_
              refine GT_skip rfl rfl rfl rfl rfl (by decide) rfl rfl ?_
              refine GT_skip rfl rfl rfl rfl rfl (by decide) rfl rfl ?_
              refine GT_skip rfl rfl rfl rfl rfl (by decide) rfl rfl ?_
              refine GT_skip rfl rfl rfl rfl rfl (by decide) rfl rfl ?_
              refine GT_skip rfl rfl rfl rfl rfl (by decide) rfl rfl ?_
              refine GT_skip rfl rfl rfl rfl rfl (by decide) rfl rfl ?_
              refine GT_skip rfl rfl rfl rfl rfl (by decide) rfl rfl ?_
              refine GT_skip rfl rfl rfl rfl rfl (by decide) rfl rfl ?_
              refine GT_skip rfl rfl rfl rfl rfl (by decide) rfl rfl ?_
              refine GT_skip rfl rfl rfl rfl rfl (by decide) rfl rfl ?_
              refine GT_skip rfl rfl rfl rfl rfl (by decide) rfl rfl ?_
              refine GT_skip rfl rfl rfl rfl rfl (by decide) rfl rfl ?_
              refine GT_skip rfl rfl rfl rfl rfl (by decide) rfl rfl ?_
              refine GT_skip rfl rfl rfl rfl rfl (by decide) rfl rfl ?_
              refine GT_skip rfl rfl rfl rfl rfl (by decide) rfl rfl ?_
              refine GT_skip rfl rfl rfl rfl rfl (by decide) rfl rfl ?_
              refine GT_skip_ld rfl rfl rfl rfl rfl (by decide) rfl rfl rfl (GR_skip rfl rfl rfl rfl rfl (by decide) rfl rfl (GR_skip rfl rfl rfl rfl rfl (by decide) rfl rfl (GR_skip rfl rfl rfl rfl rfl (by decide) rfl rfl (GR_skip rfl rfl rfl rfl rfl (by decide) rfl rfl (GR_skip rfl rfl rfl rfl rfl (by decide) rfl rfl (GR_skip rfl rfl rfl rfl rfl (by decide) rfl rfl (GR_skip rfl rfl rfl rfl rfl (by decide) rfl rfl (GR_skip rfl rfl rfl rfl rfl (by decide) rfl rfl (GR_skip rfl rfl rfl rfl rfl (by decide) rfl rfl (GR_nil)))))))))) ?_
              refine GT_skip rfl rfl rfl rfl rfl (by decide) rfl rfl ?_
              refine GT_skip rfl rfl rfl rfl rfl (by decide) rfl rfl ?_
              refine GT_skip rfl rfl rfl rfl rfl (by decide) rfl rfl ?_
              refine GT_st rfl rfl rfl rfl (V_pick_t rfl rfl rfl) ?_
              refine GT_nil ?_
              refine GE_cond_t rfl ?_
              refine GE_seq ?_
              refine GE_slots (L' := []) trivial ?_
              refine GE_plain (.st 0 .nil) rfl ?_
              refine GT_st rfl rfl rfl rfl (V_assign rfl rfl) ?_
              refine GT_nil ?_
              refine GE_ret Tryd.func53 rfl (fun w hw => ⟨?_, hw.nil⟩)
              first | (rw [decide_eq_false]; intro hP; have := hP.1 i hil; unfold posOk at this; omega) | (refine congrArg Value.bool (decide_eq_decide.2 ⟨fun h => ⟨fun j hj => hps j (by omega), h⟩, fun h => h.2⟩))
            · skip
              refine GT_st_g rfl rfl rfl rfl rfl rfl rfl (V_move rfl rfl) ?_
              refine GT_st_g rfl rfl rfl rfl rfl rfl rfl (V_gtr rfl rfl rfl) ?_
              refine GT_st_g rfl rfl rfl rfl rfl rfl rfl (V_move rfl rfl) ?_
              first | refine GT_splitNot (d := 62) rfl (fun q7 => ?_) (fun q7 => ?_) | refine GT_split (d := 62) rfl (fun q7 => ?_) (fun q7 => ?_) | refine GT_splitNotB (d := 62) rfl (fun q7 => ?_) (fun q7 => ?_) | refine GT_splitB (d := 62) rfl (fun q7 => ?_) (fun q7 => ?_)
              · skip
                refine GT_st_g rfl rfl rfl rfl rfl rfl rfl (V_move rfl rfl) ?_
                refine GT_st_g rfl rfl rfl rfl rfl rfl rfl (V_move rfl rfl) ?_
                refine GT_st_g rfl rfl rfl rfl rfl rfl rfl (V_index rfl rfl rfl Tryd.underlying62 sz_3 (k := i) rfl hil (hy.isSome (k := i) (by omega))) ?_
                refine GT_st_g rfl rfl rfl rfl rfl rfl rfl (V_load rfl rfl ag_3 (CellAt.own0 (k := i) hy eI_len (by omega) (by rw [bgns_get hil]; rfl))) ?_
                refine GT_st_g rfl rfl rfl rfl rfl rfl rfl (V_move rfl rfl) ?_
                refine GT_st_g rfl rfl rfl rfl rfl rfl rfl (V_move rfl rfl) ?_
                refine GT_st_g rfl rfl rfl rfl rfl rfl rfl (V_sub rfl rfl rfl (wrap_i64 (by omega))) ?_
                refine GT_st_g rfl rfl rfl rfl rfl rfl rfl (V_index rfl rfl rfl Tryd.underlying62 sz_3 (k := i - 2) (by omega) (by omega) (hy.isSome (k := i) (by omega))) ?_
                refine GT_st_g rfl rfl rfl rfl rfl rfl rfl (V_load rfl rfl ag_3 (CellAt.own0 (k := i - 2) hy eI_len (by omega) (by rw [bgns_get (by omega)]; rfl))) ?_
                refine GT_st_g rfl rfl rfl rfl rfl rfl rfl (V_move rfl rfl) ?_
                refine GT_st_g rfl rfl rfl rfl rfl rfl rfl (V_move rfl rfl) ?_
                refine GT_st_g rfl rfl rfl rfl rfl rfl rfl (V_sub rfl rfl rfl (wrap_i64 (by omega))) ?_
                refine GT_st_g rfl rfl rfl rfl rfl rfl rfl (V_index rfl rfl rfl Tryd.underlying31 sz_30 (k := i - 2) (by omega) (by omega) (hp.isSome (k := i - 2) (by omega))) ?_
                refine GT_st_g rfl rfl rfl rfl rfl rfl rfl (V_loadN (vs := [_, _, _, _, _, _, _]) rfl rfl ag_30 sz_30 rfl (show CellsAt _ _ _ (ePrt (pt p (i - 2))) from hp.ats noM (by omega))) ?_
                refine GT_call0_g rfl rfl rfl rfl rfl rfl rfl rfl rfl rfl rfl rn_56 (fun w hw => C_rLong (x := pt p (i - 2)) (by omega)) (GR_cons_g rfl rfl rfl rfl rfl rfl rfl (V_move rfl rfl) (GR_cons_g rfl rfl rfl rfl rfl rfl rfl (V_move rfl rfl) (GR_cons_g rfl rfl rfl rfl rfl rfl rfl (V_index rfl rfl rfl Tryd.underlying62 sz_3 (k := i) rfl hil (hy.isSome (k := i) (by omega))) (GR_cons_g rfl rfl rfl rfl rfl rfl rfl (V_load rfl rfl ag_3 (CellAt.own0 (k := i) hy eI_len (by omega) (by rw [bgns_get hil]; rfl))) (GR_cons_g rfl rfl rfl rfl rfl rfl rfl (V_move rfl rfl) (GR_cons_g rfl rfl rfl rfl rfl rfl rfl (V_move rfl rfl) (GR_cons_g rfl rfl rfl rfl rfl rfl rfl (V_sub rfl rfl rfl (wrap_i64 (by omega))) (GR_cons_g rfl rfl rfl rfl rfl rfl rfl (V_index rfl rfl rfl Tryd.underlying62 sz_3 (k := i - 2) (by omega) (by omega) (hy.isSome (k := i) (by omega))) (GR_cons_g rfl rfl rfl rfl rfl rfl rfl (V_load rfl rfl ag_3 (CellAt.own0 (k := i - 2) hy eI_len (by omega) (by rw [bgns_get (by omega)]; rfl))) (GR_nil)))))))))) ?_
                refine GT_st_g rfl rfl rfl rfl rfl rfl rfl (V_add rfl rfl rfl (wrap_i64 (by omega))) ?_
                refine GT_st_g rfl rfl rfl rfl rfl rfl rfl (V_lss rfl rfl rfl) ?_
                refine GT_st_g rfl rfl rfl rfl rfl rfl rfl (V_pick_t rfl rfl rfl) ?_
                refine GT_st rfl rfl rfl rfl (V_pick_f rfl rfl rfl) ?_
                refine GT_nil ?_
                first | refine GE_condNot rfl (fun q8 => ?_) (fun q8 => ?_) | refine GE_cond rfl (fun q8 => ?_) (fun q8 => ?_) | refine GE_condNotB rfl (fun q8 => ?_) (fun q8 => ?_) | refine GE_condB rfl (fun q8 => ?_) (fun q8 => ?_)
                · skip
                  refine GE_seq ?_
                  refine GE_slots (L' := []) trivial ?_
                  refine GE_plain (.st 0 .nil) rfl ?_
                  refine GT_st rfl rfl rfl rfl (V_assign rfl rfl) ?_
                  refine GT_nil ?_
                  refine GE_ret Tryd.func53 rfl (fun w hw => ⟨?_, hw.nil⟩)
                  rw [decide_eq_false]; intro hP; have := hP.1 i hil; unfold posOk at this; omega
                · skip
                  refine GE_skip ?_
                  refine GE_inBlock ?_
                  refine GE_slots (L' := [(0, _), (3, _), (4, _), (5, _), (20, _), (21, _), (22, _), (23, _), (24, _), (27, _), (28, _), (29, _), (30, _), (31, _), (32, _), (33, _), (34, _), (35, _), (36, _), (37, _), (38, _), (39, _), (40, _), (41, _), (42, _), (43, _), (44, _), (45, _), (46, _), (47, _), (48, _), (49, _), (50, _), (51, _), (52, _), (53, _), (54, _), (55, _), (56, _), (57, _), (60, _), (61, _), (62, _), (63, _), (64, _), (65, _), (66, _), (67, _), (68, _), (69, _), (70, _), (71, _), (72, _), (73, _), (74, _), (75, _), (76, _), (77, _), (78, _), (79, _), (80, _)]) ⟨rfl, rfl, rfl, rfl, rfl, rfl, rfl, rfl, rfl, rfl, rfl, rfl, rfl, rfl, rfl, rfl, rfl, rfl, rfl, rfl, rfl, rfl, rfl, rfl, rfl, rfl, rfl, rfl, rfl, rfl, rfl, rfl, rfl, rfl, rfl, rfl, rfl, rfl, rfl, rfl, rfl, rfl, rfl, rfl, rfl, rfl, rfl, rfl, rfl, rfl, rfl, rfl, rfl, rfl, rfl, rfl, rfl, rfl, rfl, rfl, rfl, trivial⟩ ?_
                  refine GE_plain (.st 0 (.st 1 (.ld 2 [] .nil))) rfl ?_
                  refine GT_st rfl rfl rfl rfl (V_move rfl rfl) ?_
                  refine GT_st rfl rfl rfl rfl (V_add rfl rfl rfl (wrap_i64 (by omega))) ?_
                  refine GT_ldv rfl rfl rfl rfl rfl (V_assign rfl rfl) (GR_nil) ?_
                  refine GT_nil ?_
                  exact GE_to (ih (i + 1) ⟨by omega, fun j hj => by rcases Nat.lt_or_ge j i with r | r; exact hps j r; rw [show j = i by omega]; unfold posOk; omega⟩ (by omega)) ⟨rfl, rfl, rfl, rfl, trivial⟩ HS.all
              · skip
                refine GT_skip rfl rfl rfl rfl rfl (by decide) rfl rfl ?_
                refine GT_skip rfl rfl rfl rfl rfl (by decide) rfl rfl ?_
                refine GT_skip rfl rfl rfl rfl rfl (by decide) rfl rfl ?_
                refine GT_skip rfl rfl rfl rfl rfl (by decide) rfl rfl ?_
                refine GT_skip rfl rfl rfl rfl rfl (by decide) rfl rfl ?_
                refine GT_skip rfl rfl rfl rfl rfl (by decide) rfl rfl ?_
                refine GT_skip rfl rfl rfl rfl rfl (by decide) rfl rfl ?_
                refine GT_skip rfl rfl rfl rfl rfl (by decide) rfl rfl ?_
                refine GT_skip rfl rfl rfl rfl rfl (by decide) rfl rfl ?_
                refine GT_skip rfl rfl rfl rfl rfl (by decide) rfl rfl ?_
                refine GT_skip rfl rfl rfl rfl rfl (by decide) rfl rfl ?_
                refine GT_skip rfl rfl rfl rfl rfl (by decide) rfl rfl ?_
                refine GT_skip rfl rfl rfl rfl rfl (by decide) rfl rfl ?_
                refine GT_skip rfl rfl rfl rfl rfl (by decide) rfl rfl ?_
                refine GT_skip_ld rfl rfl rfl rfl rfl (by decide) rfl rfl rfl (GR_skip rfl rfl rfl rfl rfl (by decide) rfl rfl (GR_skip rfl rfl rfl rfl rfl (by decide) rfl rfl (GR_skip rfl rfl rfl rfl rfl (by decide) rfl rfl (GR_skip rfl rfl rfl rfl rfl (by decide) rfl rfl (GR_skip rfl rfl rfl rfl rfl (by decide) rfl rfl (GR_skip rfl rfl rfl rfl rfl (by decide) rfl rfl (GR_skip rfl rfl rfl rfl rfl (by decide) rfl rfl (GR_skip rfl rfl rfl rfl rfl (by decide) rfl rfl (GR_skip rfl rfl rfl rfl rfl (by decide) rfl rfl (GR_nil)))))))))) ?_
                refine GT_skip rfl rfl rfl rfl rfl (by decide) rfl rfl ?_
                refine GT_skip rfl rfl rfl rfl rfl (by decide) rfl rfl ?_
                refine GT_st_g rfl rfl rfl rfl rfl rfl rfl (V_pick_f rfl rfl rfl) ?_
                refine GT_st rfl rfl rfl rfl (V_pick_f rfl rfl rfl) ?_
                refine GT_nil ?_
                refine GE_cond_f rfl ?_
                refine GE_skip ?_
                refine GE_inBlock ?_
                refine GE_slots (L' := [(0, _), (3, _), (4, _), (5, _), (20, _), (21, _), (22, _), (23, _), (24, _), (27, _), (28, _), (29, _), (30, _), (31, _), (32, _), (33, _), (34, _), (35, _), (36, _), (37, _), (38, _), (39, _), (40, _), (41, _), (42, _), (43, _), (44, _), (45, _), (46, _), (47, _), (48, _), (49, _), (50, _), (51, _), (52, _), (53, _), (54, _), (55, _), (56, _), (57, _), (60, _), (61, _), (62, _), (63, _), (64, _), (65, _), (66, _), (67, _), (68, _), (69, _), (70, _), (71, _), (72, _), (73, _), (74, _), (75, _), (76, _), (77, _), (78, _), (79, _), (80, _)]) ⟨rfl, rfl, rfl, rfl, rfl, rfl, rfl, rfl, rfl, rfl, rfl, rfl, rfl, rfl, rfl, rfl, rfl, rfl, rfl, rfl, rfl, rfl, rfl, rfl, rfl, rfl, rfl, rfl, rfl, rfl, rfl, rfl, rfl, rfl, rfl, rfl, rfl, rfl, rfl, rfl, rfl, rfl, rfl, rfl, rfl, rfl, rfl, rfl, rfl, rfl, rfl, rfl, rfl, rfl, rfl, rfl, rfl, rfl, rfl, rfl, rfl, trivial⟩ ?_
                refine GE_plain (.st 0 (.st 1 (.ld 2 [] .nil))) rfl ?_
                refine GT_st rfl rfl rfl rfl (V_move rfl rfl) ?_
                refine GT_st rfl rfl rfl rfl (V_add rfl rfl rfl (wrap_i64 (by omega))) ?_
                refine GT_ldv rfl rfl rfl rfl rfl (V_assign rfl rfl) (GR_nil) ?_
                refine GT_nil ?_
                exact GE_to (ih (i + 1) ⟨by omega, fun j hj => by rcases Nat.lt_or_ge j i with r | r; exact hps j r; rw [show j = i by omega]; unfold posOk; omega⟩ (by omega)) ⟨rfl, rfl, rfl, rfl, trivial⟩ HS.all
        · skip
          refine GT_skip rfl rfl rfl rfl rfl (by decide) rfl rfl ?_
          refine GT_skip rfl rfl rfl rfl rfl (by decide) rfl rfl ?_
          refine GT_skip rfl rfl rfl rfl rfl (by decide) rfl rfl ?_
          refine GT_skip rfl rfl rfl rfl rfl (by decide) rfl rfl ?_
          refine GT_skip rfl rfl rfl rfl rfl (by decide) rfl rfl ?_
          refine GT_skip rfl rfl rfl rfl rfl (by decide) rfl rfl ?_
          refine GT_skip rfl rfl rfl rfl rfl (by decide) rfl rfl ?_
          refine GT_skip rfl rfl rfl rfl rfl (by decide) rfl rfl ?_
          refine GT_skip rfl rfl rfl rfl rfl (by decide) rfl rfl ?_
          refine GT_skip_ld rfl rfl rfl rfl rfl (by decide) rfl rfl rfl (GR_skip rfl rfl rfl rfl rfl (by decide) rfl rfl (GR_skip rfl rfl rfl rfl rfl (by decide) rfl rfl (GR_skip rfl rfl rfl rfl rfl (by decide) rfl rfl (GR_skip rfl rfl rfl rfl rfl (by decide) rfl rfl (GR_skip rfl rfl rfl rfl rfl (by decide) rfl rfl (GR_nil)))))) ?_
          refine GT_skip rfl rfl rfl rfl rfl (by decide) rfl rfl ?_
          refine GT_skip rfl rfl rfl rfl rfl (by decide) rfl rfl ?_
          refine GT_skip rfl rfl rfl rfl rfl (by decide) rfl rfl ?_
          refine GT_skip rfl rfl rfl rfl rfl (by decide) rfl rfl ?_
          refine GT_skip rfl rfl rfl rfl rfl (by decide) rfl rfl ?_
          refine GT_skip rfl rfl rfl rfl rfl (by decide) rfl rfl ?_
          refine GT_skip rfl rfl rfl rfl rfl (by decide) rfl rfl ?_
          refine GT_skip rfl rfl rfl rfl rfl (by decide) rfl rfl ?_
          refine GT_skip rfl rfl rfl rfl rfl (by decide) rfl rfl ?_
          refine GT_skip rfl rfl rfl rfl rfl (by decide) rfl rfl ?_
          refine GT_skip rfl rfl rfl rfl rfl (by decide) rfl rfl ?_
          refine GT_skip rfl rfl rfl rfl rfl (by decide) rfl rfl ?_
          refine GT_skip rfl rfl rfl rfl rfl (by decide) rfl rfl ?_
          refine GT_skip_ld rfl rfl rfl rfl rfl (by decide) rfl rfl rfl (GR_skip rfl rfl rfl rfl rfl (by decide) rfl rfl (GR_skip rfl rfl rfl rfl rfl (by decide) rfl rfl (GR_skip rfl rfl rfl rfl rfl (by decide) rfl rfl (GR_skip rfl rfl rfl rfl rfl (by decide) rfl rfl (GR_skip rfl rfl rfl rfl rfl (by decide) rfl rfl (GR_nil)))))) ?_
          refine GT_skip rfl rfl rfl rfl rfl (by decide) rfl rfl ?_
          refine GT_skip rfl rfl rfl rfl rfl (by decide) rfl rfl ?_
          refine GT_skip rfl rfl rfl rfl rfl (by decide) rfl rfl ?_
          refine GT_st_g rfl rfl rfl rfl rfl rfl rfl (V_pick_f rfl rfl rfl) ?_
          refine GT_st rfl rfl rfl rfl (V_pick_f rfl rfl rfl) ?_
          refine GT_st rfl rfl rfl rfl (V_move rfl rfl) ?_
          refine GT_st_g rfl rfl rfl rfl rfl rfl rfl (V_move rfl rfl) ?_
          refine GT_st_g rfl rfl rfl rfl rfl rfl rfl (V_gtr rfl rfl rfl) ?_
          refine GT_st_g rfl rfl rfl rfl rfl rfl rfl (V_move rfl rfl) ?_
          first | refine GT_splitNot (d := 62) rfl (fun q7 => ?_) (fun q7 => ?_) | refine GT_split (d := 62) rfl (fun q7 => ?_) (fun q7 => ?_) | refine GT_splitNotB (d := 62) rfl (fun q7 => ?_) (fun q7 => ?_) | refine GT_splitB (d := 62) rfl (fun q7 => ?_) (fun q7 => ?_)
          · skip
            refine GT_st_g rfl rfl rfl rfl rfl rfl rfl (V_move rfl rfl) ?_
            refine GT_st_g rfl rfl rfl rfl rfl rfl rfl (V_move rfl rfl) ?_
            refine GT_st_g rfl rfl rfl rfl rfl rfl rfl (V_index rfl rfl rfl Tryd.underlying62 sz_3 (k := i) rfl hil (hy.isSome (k := i) (by omega))) ?_
            refine GT_st_g rfl rfl rfl rfl rfl rfl rfl (V_load rfl rfl ag_3 (CellAt.own0 (k := i) hy eI_len (by omega) (by rw [bgns_get hil]; rfl))) ?_
            refine GT_st_g rfl rfl rfl rfl rfl rfl rfl (V_move rfl rfl) ?_
            refine GT_st_g rfl rfl rfl rfl rfl rfl rfl (V_move rfl rfl) ?_
            refine GT_st_g rfl rfl rfl rfl rfl rfl rfl (V_sub rfl rfl rfl (wrap_i64 (by omega))) ?_
            refine GT_st_g rfl rfl rfl rfl rfl rfl rfl (V_index rfl rfl rfl Tryd.underlying62 sz_3 (k := i - 2) (by omega) (by omega) (hy.isSome (k := i) (by omega))) ?_
            refine GT_st_g rfl rfl rfl rfl rfl rfl rfl (V_load rfl rfl ag_3 (CellAt.own0 (k := i - 2) hy eI_len (by omega) (by rw [bgns_get (by omega)]; rfl))) ?_
            refine GT_st_g rfl rfl rfl rfl rfl rfl rfl (V_move rfl rfl) ?_
            refine GT_st_g rfl rfl rfl rfl rfl rfl rfl (V_move rfl rfl) ?_
            refine GT_st_g rfl rfl rfl rfl rfl rfl rfl (V_sub rfl rfl rfl (wrap_i64 (by omega))) ?_
            refine GT_st_g rfl rfl rfl rfl rfl rfl rfl (V_index rfl rfl rfl Tryd.underlying31 sz_30 (k := i - 2) (by omega) (by omega) (hp.isSome (k := i - 2) (by omega))) ?_
            refine GT_st_g rfl rfl rfl rfl rfl rfl rfl (V_loadN (vs := [_, _, _, _, _, _, _]) rfl rfl ag_30 sz_30 rfl (show CellsAt _ _ _ (ePrt (pt p (i - 2))) from hp.ats noM (by omega))) ?_
            refine GT_call0_g rfl rfl rfl rfl rfl rfl rfl rfl rfl rfl rfl rn_56 (fun w hw => C_rLong (x := pt p (i - 2)) (by omega)) (GR_cons_g rfl rfl rfl rfl rfl rfl rfl (V_move rfl rfl) (GR_cons_g rfl rfl rfl rfl rfl rfl rfl (V_move rfl rfl) (GR_cons_g rfl rfl rfl rfl rfl rfl rfl (V_index rfl rfl rfl Tryd.underlying62 sz_3 (k := i) rfl hil (hy.isSome (k := i) (by omega))) (GR_cons_g rfl rfl rfl rfl rfl rfl rfl (V_load rfl rfl ag_3 (CellAt.own0 (k := i) hy eI_len (by omega) (by rw [bgns_get hil]; rfl))) (GR_cons_g rfl rfl rfl rfl rfl rfl rfl (V_move rfl rfl) (GR_cons_g rfl rfl rfl rfl rfl rfl rfl (V_move rfl rfl) (GR_cons_g rfl rfl rfl rfl rfl rfl rfl (V_sub rfl rfl rfl (wrap_i64 (by omega))) (GR_cons_g rfl rfl rfl rfl rfl rfl rfl (V_index rfl rfl rfl Tryd.underlying62 sz_3 (k := i - 2) (by omega) (by omega) (hy.isSome (k := i) (by omega))) (GR_cons_g rfl rfl rfl rfl rfl rfl rfl (V_load rfl rfl ag_3 (CellAt.own0 (k := i - 2) hy eI_len (by omega) (by rw [bgns_get (by omega)]; rfl))) (GR_nil)))))))))) ?_
            refine GT_st_g rfl rfl rfl rfl rfl rfl rfl (V_add rfl rfl rfl (wrap_i64 (by omega))) ?_
            refine GT_st_g rfl rfl rfl rfl rfl rfl rfl (V_lss rfl rfl rfl) ?_
            refine GT_st_g rfl rfl rfl rfl rfl rfl rfl (V_pick_t rfl rfl rfl) ?_
            refine GT_st rfl rfl rfl rfl (V_pick_f rfl rfl rfl) ?_
            refine GT_nil ?_
            first | refine GE_condNot rfl (fun q8 => ?_) (fun q8 => ?_) | refine GE_cond rfl (fun q8 => ?_) (fun q8 => ?_) | refine GE_condNotB rfl (fun q8 => ?_) (fun q8 => ?_) | refine GE_condB rfl (fun q8 => ?_) (fun q8 => ?_)
            · skip
              refine GE_seq ?_
              refine GE_slots (L' := []) trivial ?_
              refine GE_plain (.st 0 .nil) rfl ?_
              refine GT_st rfl rfl rfl rfl (V_assign rfl rfl) ?_
              refine GT_nil ?_
              refine GE_ret Tryd.func53 rfl (fun w hw => ⟨?_, hw.nil⟩)
              rw [decide_eq_false]; intro hP; have := hP.1 i hil; unfold posOk at this; omega
            · skip
              refine GE_skip ?_
              refine GE_inBlock ?_
              refine GE_slots (L' := [(0, _), (3, _), (4, _), (5, _), (20, _), (21, _), (22, _), (23, _), (24, _), (27, _), (28, _), (29, _), (30, _), (31, _), (32, _), (33, _), (34, _), (35, _), (36, _), (37, _), (38, _), (39, _), (40, _), (41, _), (42, _), (43, _), (44, _), (45, _), (46, _), (47, _), (48, _), (49, _), (50, _), (51, _), (52, _), (53, _), (54, _), (55, _), (56, _), (57, _), (60, _), (61, _), (62, _), (63, _), (64, _), (65, _), (66, _), (67, _), (68, _), (69, _), (70, _), (71, _), (72, _), (73, _), (74, _), (75, _), (76, _), (77, _), (78, _), (79, _), (80, _)]) ⟨rfl, rfl, rfl, rfl, rfl, rfl, rfl, rfl, rfl, rfl, rfl, rfl, rfl, rfl, rfl, rfl, rfl, rfl, rfl, rfl, rfl, rfl, rfl, rfl, rfl, rfl, rfl, rfl, rfl, rfl, rfl, rfl, rfl, rfl, rfl, rfl, rfl, rfl, rfl, rfl, rfl, rfl, rfl, rfl, rfl, rfl, rfl, rfl, rfl, rfl, rfl, rfl, rfl, rfl, rfl, rfl, rfl, rfl, rfl, rfl, rfl, trivial⟩ ?_
              refine GE_plain (.st 0 (.st 1 (.ld 2 [] .nil))) rfl ?_
              refine GT_st rfl rfl rfl rfl (V_move rfl rfl) ?_
              refine GT_st rfl rfl rfl rfl (V_add rfl rfl rfl (wrap_i64 (by omega))) ?_
              refine GT_ldv rfl rfl rfl rfl rfl (V_assign rfl rfl) (GR_nil) ?_
              refine GT_nil ?_
              exact GE_to (ih (i + 1) ⟨by omega, fun j hj => by rcases Nat.lt_or_ge j i with r | r; exact hps j r; rw [show j = i by omega]; unfold posOk; omega⟩ (by omega)) ⟨rfl, rfl, rfl, rfl, trivial⟩ HS.all
          · skip
            refine GT_skip rfl rfl rfl rfl rfl (by decide) rfl rfl ?_
            refine GT_skip rfl rfl rfl rfl rfl (by decide) rfl rfl ?_
            refine GT_skip rfl rfl rfl rfl rfl (by decide) rfl rfl ?_
            refine GT_skip rfl rfl rfl rfl rfl (by decide) rfl rfl ?_
            refine GT_skip rfl rfl rfl rfl rfl (by decide) rfl rfl ?_
            refine GT_skip rfl rfl rfl rfl rfl (by decide) rfl rfl ?_
            refine GT_skip rfl rfl rfl rfl rfl (by decide) rfl rfl ?_
            refine GT_skip rfl rfl rfl rfl rfl (by decide) rfl rfl ?_
            refine GT_skip rfl rfl rfl rfl rfl (by decide) rfl rfl ?_
            refine GT_skip rfl rfl rfl rfl rfl (by decide) rfl rfl ?_
            refine GT_skip rfl rfl rfl rfl rfl (by decide) rfl rfl ?_
            refine GT_skip rfl rfl rfl rfl rfl (by decide) rfl rfl ?_
            refine GT_skip rfl rfl rfl rfl rfl (by decide) rfl rfl ?_
            refine GT_skip rfl rfl rfl rfl rfl (by decide) rfl rfl ?_
            refine GT_skip_ld rfl rfl rfl rfl rfl (by decide) rfl rfl rfl (GR_skip rfl rfl rfl rfl rfl (by decide) rfl rfl (GR_skip rfl rfl rfl rfl rfl (by decide) rfl rfl (GR_skip rfl rfl rfl rfl rfl (by decide) rfl rfl (GR_skip rfl rfl rfl rfl rfl (by decide) rfl rfl (GR_skip rfl rfl rfl rfl rfl (by decide) rfl rfl (GR_skip rfl rfl rfl rfl rfl (by decide) rfl rfl (GR_skip rfl rfl rfl rfl rfl (by decide) rfl rfl (GR_skip rfl rfl rfl rfl rfl (by decide) rfl rfl (GR_skip rfl rfl rfl rfl rfl (by decide) rfl rfl (GR_nil)))))))))) ?_
            refine GT_skip rfl rfl rfl rfl rfl (by decide) rfl rfl ?_
            refine GT_skip rfl rfl rfl rfl rfl (by decide) rfl rfl ?_
            refine GT_st_g rfl rfl rfl rfl rfl rfl rfl (V_pick_f rfl rfl rfl) ?_
            refine GT_st rfl rfl rfl rfl (V_pick_f rfl rfl rfl) ?_
            refine GT_nil ?_
            refine GE_cond_f rfl ?_
            refine GE_skip ?_
            refine GE_inBlock ?_
            refine GE_slots (L' := [(0, _), (3, _), (4, _), (5, _), (20, _), (21, _), (22, _), (23, _), (24, _), (27, _), (28, _), (29, _), (30, _), (31, _), (32, _), (33, _), (34, _), (35, _), (36, _), (37, _), (38, _), (39, _), (40, _), (41, _), (42, _), (43, _), (44, _), (45, _), (46, _), (47, _), (48, _), (49, _), (50, _), (51, _), (52, _), (53, _), (54, _), (55, _), (56, _), (57, _), (60, _), (61, _), (62, _), (63, _), (64, _), (65, _), (66, _), (67, _), (68, _), (69, _), (70, _), (71, _), (72, _), (73, _), (74, _), (75, _), (76, _), (77, _), (78, _), (79, _), (80, _)]) ⟨rfl, rfl, rfl, rfl, rfl, rfl, rfl, rfl, rfl, rfl, rfl, rfl, rfl, rfl, rfl, rfl, rfl, rfl, rfl, rfl, rfl, rfl, rfl, rfl, rfl, rfl, rfl, rfl, rfl, rfl, rfl, rfl, rfl, rfl, rfl, rfl, rfl, rfl, rfl, rfl, rfl, rfl, rfl, rfl, rfl, rfl, rfl, rfl, rfl, rfl, rfl, rfl, rfl, rfl, rfl, rfl, rfl, rfl, rfl, rfl, rfl, trivial⟩ ?_
            refine GE_plain (.st 0 (.st 1 (.ld 2 [] .nil))) rfl ?_
            refine GT_st rfl rfl rfl rfl (V_move rfl rfl) ?_
            refine GT_st rfl rfl rfl rfl (V_add rfl rfl rfl (wrap_i64 (by omega))) ?_
            refine GT_ldv rfl rfl rfl rfl rfl (V_assign rfl rfl) (GR_nil) ?_
            refine GT_nil ?_
            exact GE_to (ih (i + 1) ⟨by omega, fun j hj => by rcases Nat.lt_or_ge j i with r | r; exact hps j r; rw [show j = i by omega]; unfold posOk; omega⟩ (by omega)) ⟨rfl, rfl, rfl, rfl, trivial⟩ HS.all
    · skip
      refine GE_exit rfl ?_
      refine GE_seq ?_
      refine GE_slots (L' := [(4, _)]) ⟨rfl, trivial⟩ ?_
      refine GE_plain (.st 0 (.st 1 (.st 2 .nil))) rfl ?_
      refine GT_st rfl rfl rfl rfl (V_move rfl rfl) ?_
      refine GT_st rfl rfl rfl rfl (V_leq rfl rfl rfl) ?_
      refine GT_st rfl rfl rfl rfl (V_assign rfl rfl) ?_
      refine GT_nil ?_
      refine GE_ret Tryd.func53 rfl (fun w hw => ⟨?_, hw.nil⟩)
      first | (rw [decide_eq_false]; intro hP; have := hP.1 i hil; unfold posOk at this; omega) | (refine congrArg Value.bool (decide_eq_decide.2 ⟨fun h => ⟨fun j hj => hps j (by omega), h⟩, fun h => h.2⟩))
  · exact ⟨Nat.zero_le _, fun i hi => absurd hi (Nat.not_lt_zero _)⟩
theorem C_rCheckProgramme (h : Tks w A l) (hp : RdL w 7 ePrt A2 p) : Con0 Tryd.prog 21 [.slice A l.length c, .slice A2 p.length c2] w (I (gErr l p)) := by
  refine Ret_of (vs := [_, _]) hm none' Tryd.func21 rfl Tryd.ntmps21 rfl ?_
  dsimp only [slotsOf]
  refine GE_seq ?_
  refine GE_plain (.st 0 .nil) rfl ?_
  refine GT_st rfl rfl rfl rfl (V_assign rfl rfl) ?_
  refine GT_nil ?_
  refine GE_seq ?_
  refine GE_seq ?_
  refine GE_plain (.st 0 (.ld 1 [] (.st 2 .nil))) rfl ?_
  refine GT_st rfl rfl rfl rfl (V_move rfl rfl) ?_
  refine GT_call0 rfl rfl rfl rfl rfl rfl rfl rfl rn_38 (fun w hw => C_rCheckTakes (h.sh hw)) (GR_nil) ?_
  refine GT_st rfl rfl rfl rfl (V_neq rfl rfl rfl) ?_
  refine GT_nil ?_
  first | refine GE_condNot rfl (fun q1 => ?_) (fun q1 => ?_) | refine GE_cond rfl (fun q1 => ?_) (fun q1 => ?_) | refine GE_condNotB rfl (fun q1 => ?_) (fun q1 => ?_) | refine GE_condB rfl (fun q1 => ?_) (fun q1 => ?_)
  · skip
    refine GE_seq ?_
    refine GE_slots (L' := [(0, _)]) ⟨rfl, trivial⟩ ?_
    refine GE_plain (.st 0 (.ld 1 [] (.st 2 .nil))) rfl ?_
    refine GT_st rfl rfl rfl rfl (V_move rfl rfl) ?_
    refine GT_call0 rfl rfl rfl rfl rfl rfl rfl rfl rn_38 (fun w hw => C_rCheckTakes (h.sh hw)) (GR_nil) ?_
    refine GT_st rfl rfl rfl rfl (V_assign rfl rfl) ?_
    refine GT_nil ?_
    refine GE_ret Tryd.func21 rfl (fun w hw => ⟨?_, hw.nil⟩)
    rw [gErr, if_neg q1]
  · have hl := lErr_zero.1 q1
    refine GE_skip ?_
    refine GE_seq ?_
    refine GE_seq ?_
    refine GE_slots (L' := [(0, _), (1, _)]) ⟨rfl, rfl, trivial⟩ ?_
    refine GE_plain (.st 0 (.st 1 (.st 2 .nil))) rfl ?_
    refine GT_st rfl rfl rfl rfl (V_move rfl rfl) ?_
    refine GT_st rfl rfl rfl rfl (V_len rfl Tryd.underlying31 rfl) ?_
    refine GT_st rfl rfl rfl rfl (V_gtr rfl rfl rfl) ?_
    refine GT_nil ?_
    first | refine GE_condNot rfl (fun q2 => ?_) (fun q2 => ?_) | refine GE_cond rfl (fun q2 => ?_) (fun q2 => ?_) | refine GE_condNotB rfl (fun q2 => ?_) (fun q2 => ?_) | refine GE_condB rfl (fun q2 => ?_) (fun q2 => ?_)
    · skip
      refine GE_seq ?_
      refine GE_slots (L' := []) trivial ?_
      refine GE_plain (.st 0 .nil) rfl ?_
      refine GT_st rfl rfl rfl rfl (V_assign rfl rfl) ?_
      refine GT_nil ?_
      refine GE_ret Tryd.func21 rfl (fun w hw => ⟨?_, hw.nil⟩)
      rw [gErr, if_pos q1, if_pos (by omega)]
    · skip
      refine GE_skip ?_
      refine GE_seq ?_
      refine GE_seq ?_
      refine GE_plain (.st 0 .nil) rfl ?_
      refine GT_st rfl rfl rfl rfl (V_assign rfl rfl) ?_
      refine GT_nil ?_
      refine GE_block ?_
      refine GE_to (GE_loop (ι := Nat) (fun k => p.length - k) (fun k => [(0, .slice A l.length c), (1, .slice A2 p.length c2), (5, I k)]) (fun k => []) (fun k => k ≤ p.length ∧ ∀ i, i < k → goodP l (pt p i) = true) ?_ 0 ?_) ⟨rfl, rfl, rfl, trivial⟩ HS.nil
      · rintro k ⟨hk, hgd⟩ ih
        refine GE_seq ?_
        refine GE_seq ?_
        refine GE_plain (.st 0 (.st 1 (.st 2 (.st 3 .nil)))) rfl ?_
        refine GT_st rfl rfl rfl rfl (V_move rfl rfl) ?_
        refine GT_st rfl rfl rfl rfl (V_move rfl rfl) ?_
        refine GT_st rfl rfl rfl rfl (V_len rfl Tryd.underlying31 rfl) ?_
        refine GT_st rfl rfl rfl rfl (V_lss rfl rfl rfl) ?_
        refine GT_nil ?_
        first | refine GE_condNot rfl (fun q3 => ?_) (fun q3 => ?_) | refine GE_cond rfl (fun q3 => ?_) (fun q3 => ?_) | refine GE_condNotB rfl (fun q3 => ?_) (fun q3 => ?_) | refine GE_condB rfl (fun q3 => ?_) (fun q3 => ?_)
        · have hkl : k < p.length := (by omega)
          refine GE_skip ?_
          refine GE_seq ?_
          refine GE_block ?_
          refine GE_seq ?_
          refine GE_slots (L' := [(0, _), (1, _), (5, _)]) ⟨rfl, rfl, rfl, trivial⟩ ?_
          refine GE_plain (.st 0 (.st 1 (.st 2 (.st 3 (.st 4 (.ld 5 [] (.st 6 .nil))))))) rfl ?_
          refine GT_st rfl rfl rfl rfl (V_move rfl rfl) ?_
          refine GT_st rfl rfl rfl rfl (V_move rfl rfl) ?_
          refine GT_st rfl rfl rfl rfl (V_move rfl rfl) ?_
          refine GT_st rfl rfl rfl rfl (V_index rfl rfl rfl Tryd.underlying31 sz_30 (k := k) rfl hkl (hp.isSome hkl)) ?_
          refine GT_st rfl rfl rfl rfl (V_loadN (vs := [_, _, _, _, _, _, _]) rfl rfl ag_30 sz_30 rfl (show CellsAt _ _ _ (ePrt (pt p k)) from hp.ats noM hkl)) ?_
          refine GT_call0 rfl rfl rfl rfl rfl rfl rfl rfl rn_52 (fun w hw => C_rpart (x := pt p k) (h.sh hw)) (GR_nil) ?_
          first | refine GT_st rfl rfl rfl rfl (V_not rfl rfl) ?_ | refine GT_st rfl rfl rfl rfl (V_notB rfl rfl) ?_
          refine GT_nil ?_
          first | refine GE_condNot rfl (fun q4 => ?_) (fun q4 => ?_) | refine GE_cond rfl (fun q4 => ?_) (fun q4 => ?_) | refine GE_condNotB rfl (fun q4 => ?_) (fun q4 => ?_) | refine GE_condB rfl (fun q4 => ?_) (fun q4 => ?_)
          · skip
            refine GE_seq ?_
            refine GE_slots (L' := []) trivial ?_
            refine GE_plain (.st 0 .nil) rfl ?_
            refine GT_st rfl rfl rfl rfl (V_assign rfl rfl) ?_
            refine GT_nil ?_
            refine GE_ret Tryd.func21 rfl (fun w hw => ⟨?_, hw.nil⟩)
            rw [gErr, if_pos q1, if_neg (by omega), if_neg (by rw [all_split hkl q4]; decide)]
          · skip
            refine GE_skip ?_
            refine GE_inBlock ?_
            refine GE_slots (L' := [(0, _), (1, _), (5, _)]) ⟨rfl, rfl, rfl, trivial⟩ ?_
            refine GE_plain (.st 0 (.st 1 (.ld 2 [] .nil))) rfl ?_
            refine GT_st rfl rfl rfl rfl (V_move rfl rfl) ?_
            refine GT_st rfl rfl rfl rfl (V_add rfl rfl rfl (wrap_i64 (by omega))) ?_
            refine GT_ldv rfl rfl rfl rfl rfl (V_assign rfl rfl) (GR_nil) ?_
            refine GT_nil ?_
            exact GE_to (ih (k + 1) ⟨by omega, fun i hi => by rcases Nat.lt_or_ge i k with r | r; exact hgd i r; rw [show i = k by omega]; exact q4⟩ (by omega)) ⟨rfl, rfl, rfl, trivial⟩ HS.nil
        · have hG : Gd l p := ⟨hl, by omega, fun i hi => goodP_iff.1 (hgd i (by omega))⟩; have hall : p.all (goodP l) = true := all_getD.2 fun i hi => hgd i (by omega)
          refine GE_exit rfl ?_
          refine GE_seq ?_
          refine GE_seq ?_
          refine GE_slots (L' := [(1, _)]) ⟨rfl, trivial⟩ ?_
          refine GE_plain (.st 0 (.ld 1 [] (.st 2 .nil))) rfl ?_
          refine GT_st rfl rfl rfl rfl (V_move rfl rfl) ?_
          refine GT_call0 rfl rfl rfl rfl rfl rfl rfl rfl rn_53 (fun w hw => C_rpossible hG (hp.sh hw)) (GR_nil) ?_
          first | refine GT_st rfl rfl rfl rfl (V_not rfl rfl) ?_ | refine GT_st rfl rfl rfl rfl (V_notB rfl rfl) ?_
          refine GT_nil ?_
          first | refine GE_condNot rfl (fun q5 => ?_) (fun q5 => ?_) | refine GE_cond rfl (fun q5 => ?_) (fun q5 => ?_) | refine GE_condNotB rfl (fun q5 => ?_) (fun q5 => ?_) | refine GE_condB rfl (fun q5 => ?_) (fun q5 => ?_)
          · skip
            refine GE_seq ?_
            refine GE_slots (L' := []) trivial ?_
            refine GE_plain (.st 0 .nil) rfl ?_
            refine GT_st rfl rfl rfl rfl (V_assign rfl rfl) ?_
            refine GT_nil ?_
            refine GE_ret Tryd.func21 rfl (fun w hw => ⟨?_, hw.nil⟩)
            first | rw [gErr, if_pos q1, if_neg (by omega), if_pos hall, if_neg q5] | rw [gErr, if_pos q1, if_neg (by omega), if_pos hall, if_neg (of_decide_eq_false q5)]
          · skip
            refine GE_skip ?_
            refine GE_seq ?_
            refine GE_slots (L' := []) trivial ?_
            refine GE_plain (.st 0 .nil) rfl ?_
            refine GT_st rfl rfl rfl rfl (V_assign rfl rfl) ?_
            refine GT_nil ?_
            refine GE_ret Tryd.func21 rfl (fun w hw => ⟨?_, hw.nil⟩)
            first | rw [gErr, if_pos q1, if_neg (by omega), if_pos hall, if_pos q5] | rw [gErr, if_pos q1, if_neg (by omega), if_pos hall, if_pos (of_decide_eq_true q5)]
      · exact ⟨Nat.zero_le _, fun i hi => absurd hi (Nat.not_lt_zero _)⟩
end
end Go.Proofs.YtnklkobhjdkblaaDoor

namespace Go.Proofs.YtnklkobhjdkblaaDoor
open Go.Sx Go.Proofs Go.RowKit

section
variable {w : World} {A A2 : Option Addr} {c c2 : Nat} {s : List Sam}
end
end Go.Proofs.YtnklkobhjdkblaaDoor

namespace Go.Proofs.YtnklkobhjdkblaaDoor
open Go.Sx Go.Proofs Go.RowKit

section
variable {w : World} {A A2 B : Option Addr} {c c2 : Nat} {l : List Tk} {p : List Prt}
set_option maxRecDepth 10000 in
theorem C_Sound {i k : Int} (h : Tks w A l) (hp : RdL w 7 ePrt A2 p) : Con0 Tryd.prog 23 [.slice A l.length c, .slice A2 p.length c2, I i, I k] w (.tuple #[.agg #[I (sndV l p i k).l, I (sndV l p i k).r], I (sndE l p i k)]) := by
  by_cases hg : gErr l p = 0
  · have hP := gErr_zero.1 hg
    have hG : Gd l p := ⟨hP.tks, hP.most, hP.each⟩
    refine Ret_of (vs := [_, _, _, _]) hm none' Tryd.func23 rfl Tryd.ntmps23 rfl ?_
    dsimp only [slotsOf]
    refine GE_seq ?_
    refine GE_plain (.ld 0 [] (.st 1 .nil)) rfl ?_
    refine GT_alloc rfl rfl rfl rfl rfl zc_35 (fun _ => GR_nil) (fun b8 => ?_)
    refine GT_st rfl rfl rfl rfl (V_assign rfl rfl) ?_
    refine GT_nil ?_
    refine GE_seq ?_
    refine GE_plain (.st 0 (.st 1 (.ld 2 [] (.st 3 (.st 4 (.st 5 (.st 6 (.st 7 .nil)))))))) rfl ?_
    refine GT_st rfl rfl rfl rfl (V_move rfl rfl) ?_
    refine GT_st rfl rfl rfl rfl (V_move rfl rfl) ?_
    refine GT_call rfl rfl rfl rfl rfl rfl rfl rfl rn_46 (fun w hw => C_new_ok (h.sh hw) (hp.sh hw) hg) (fun _ _ => GR_nil) (fun y hy => ?_)
    refine GT_st rfl rfl rfl rfl (V_move rfl rfl) ?_
    refine GT_st rfl rfl rfl rfl (V_extract rfl rfl rfl) ?_
    refine GT_st rfl rfl rfl rfl (V_extract rfl rfl rfl) ?_
    refine GT_st rfl rfl rfl rfl (V_assign rfl rfl) ?_
    refine GT_st rfl rfl rfl rfl (V_assign rfl rfl) ?_
    refine GT_nil ?_
    refine GE_seq ?_
    refine GE_seq ?_
    refine GE_slots (L' := [(1, _), (2, _), (3, _), (8, _), (10, _), (11, _)]) ⟨rfl, rfl, rfl, rfl, rfl, rfl, trivial⟩ ?_
    refine GE_plain (.st 0 (.st 1 .nil)) rfl ?_
    refine GT_st rfl rfl rfl rfl (V_move rfl rfl) ?_
    refine GT_st rfl rfl rfl rfl (V_isF (V_neq rfl rfl rfl) (by decide)) ?_
    refine GT_nil ?_
    refine GE_cond_f rfl ?_
    refine GE_skip ?_
    refine GE_seq ?_
    refine GE_seq ?_
    refine GE_drawn (.st 0 (.st 1 (.st 2 (.st 3 (.st 4 (.st 5 (.st 6 (.st 7 (.st 8 (.st 9 (.st 10 (.st 11 (.st 12 (.st 13 (.st 14 (.st 15 (.st 16 (.st 17 (.st 18 (.st 19 (.st 20 (.st 21 (.st 22 (.st 23 (.st 24 (.st 25 (.st 26 (.st 27 (.st 28 (.st 29 (.st 30 (.st 31 (.st 32 .nil))))))))))))))))))))))))))))))))) [] (by decide +kernel) ?_
    refine GT_st rfl rfl rfl rfl (V_move rfl rfl) ?_
    refine GT_st rfl rfl rfl rfl (V_lss rfl rfl rfl) ?_
    refine GT_st rfl rfl rfl rfl (V_move rfl rfl) ?_
    first | refine GT_splitNot (d := 24) rfl (fun q1 => ?_) (fun q1 => ?_) | refine GT_split (d := 24) rfl (fun q1 => ?_) (fun q1 => ?_) | refine GT_splitNotB (d := 24) rfl (fun q1 => ?_) (fun q1 => ?_) | refine GT_splitB (d := 24) rfl (fun q1 => ?_) (fun q1 => ?_)
    · skip
      refine GT_skip rfl rfl rfl rfl rfl (by decide) rfl rfl ?_
      refine GT_skip rfl rfl rfl rfl rfl (by decide) rfl rfl ?_
      refine GT_skip rfl rfl rfl rfl rfl (by decide) rfl rfl ?_
      refine GT_skip rfl rfl rfl rfl rfl (by decide) rfl rfl ?_
      refine GT_st rfl rfl rfl rfl (V_pick_t rfl rfl rfl) ?_
      refine GT_st rfl rfl rfl rfl (V_move rfl rfl) ?_
      refine GT_skip rfl rfl rfl rfl rfl (by decide) rfl rfl ?_
      refine GT_skip rfl rfl rfl rfl rfl (by decide) rfl rfl ?_
      refine GT_st rfl rfl rfl rfl (V_pick_t rfl rfl rfl) ?_
      refine GT_st rfl rfl rfl rfl (V_move rfl rfl) ?_
      refine GT_skip rfl rfl rfl rfl rfl (by decide) rfl rfl ?_
      refine GT_skip rfl rfl rfl rfl rfl (by decide) rfl rfl ?_
      refine GT_skip rfl rfl rfl rfl rfl (by decide) rfl rfl ?_
      refine GT_skip rfl rfl rfl rfl rfl (by decide) rfl rfl ?_
      refine GT_skip rfl rfl rfl rfl rfl (by decide) rfl rfl ?_
      refine GT_skip rfl rfl rfl rfl rfl (by decide) rfl rfl ?_
      refine GT_skip rfl rfl rfl rfl rfl (by decide) rfl rfl ?_
      refine GT_skip rfl rfl rfl rfl rfl (by decide) rfl rfl ?_
      refine GT_skip rfl rfl rfl rfl rfl (by decide) rfl rfl ?_
      refine GT_skip rfl rfl rfl rfl rfl (by decide) rfl rfl ?_
      refine GT_skip rfl rfl rfl rfl rfl (by decide) rfl rfl ?_
      refine GT_skip rfl rfl rfl rfl rfl (by decide) rfl rfl ?_
      refine GT_skip rfl rfl rfl rfl rfl (by decide) rfl rfl ?_
      refine GT_skip rfl rfl rfl rfl rfl (by decide) rfl rfl ?_
      refine GT_skip rfl rfl rfl rfl rfl (by decide) rfl rfl ?_
      refine GT_skip rfl rfl rfl rfl rfl (by decide) rfl rfl ?_
      refine GT_skip rfl rfl rfl rfl rfl (by decide) rfl rfl ?_
      refine GT_skip rfl rfl rfl rfl rfl (by decide) rfl rfl ?_
      refine GT_skip rfl rfl rfl rfl rfl (by decide) rfl rfl ?_
      refine GT_st rfl rfl rfl rfl (V_pick_t rfl rfl rfl) ?_
      refine GT_nil ?_
      refine GE_cond_t rfl ?_
      refine GE_seq ?_
      refine GE_slots (L' := [(8, _)]) ⟨rfl, trivial⟩ ?_
      refine GE_plain (.st 0 (.ld 1 [] (.st 2 .nil))) rfl ?_
      refine GT_st rfl rfl rfl rfl (V_build (vs := [_, _]) rfl rfl zc_35 pl_35 sa_35 rfl) ?_
      refine GT_store (vs := [_, _]) (l' := [_, _]) rfl rfl rfl rfl rfl rfl rfl sz_35 rfl rfl (Nat.le_of_ble_eq_true rfl) rfl (GR_nil) ?_
      refine GT_st rfl rfl rfl rfl (V_assign rfl rfl) ?_
      refine GT_nil ?_
      refine GE_ret Tryd.func23 ⟨_, _, ⟨_, rfl, fun w m => run_loadVar_agg (vs := [_, _]) ag_35 sz_35 rfl (fun j v hj => CellsAt.item rfl j v hj w m)⟩, rfl, rfl⟩ (fun w hw => ⟨?_, hw.nil⟩)
      first | (have e : sndE l p i k = 3 := (by rw [sndE, if_pos hg, if_neg (by omega)]); rw [sndV, if_neg (by rw [e]; decide), e]) | (have e : sndE l p i k = 0 := (by rw [sndE, if_pos hg, if_pos (by omega)]); rw [sndV, if_pos e, e])
    · skip
      refine GT_st_g rfl rfl rfl rfl rfl rfl rfl (V_move rfl rfl) ?_
      refine GT_st_g rfl rfl rfl rfl rfl rfl rfl (V_move rfl rfl) ?_
      refine GT_st_g rfl rfl rfl rfl rfl rfl rfl (V_len rfl Tryd.underlying31 rfl) ?_
      refine GT_st_g rfl rfl rfl rfl rfl rfl rfl (V_geq rfl rfl rfl) ?_
      refine GT_st rfl rfl rfl rfl (V_pick_f rfl rfl rfl) ?_
      refine GT_st rfl rfl rfl rfl (V_move rfl rfl) ?_
      first | refine GT_splitNot (d := 30) rfl (fun q2 => ?_) (fun q2 => ?_) | refine GT_split (d := 30) rfl (fun q2 => ?_) (fun q2 => ?_) | refine GT_splitNotB (d := 30) rfl (fun q2 => ?_) (fun q2 => ?_) | refine GT_splitB (d := 30) rfl (fun q2 => ?_) (fun q2 => ?_)
      · skip
        refine GT_skip rfl rfl rfl rfl rfl (by decide) rfl rfl ?_
        refine GT_skip rfl rfl rfl rfl rfl (by decide) rfl rfl ?_
        refine GT_st rfl rfl rfl rfl (V_pick_t rfl rfl rfl) ?_
        refine GT_st rfl rfl rfl rfl (V_move rfl rfl) ?_
        refine GT_skip rfl rfl rfl rfl rfl (by decide) rfl rfl ?_
        refine GT_skip rfl rfl rfl rfl rfl (by decide) rfl rfl ?_
        refine GT_skip rfl rfl rfl rfl rfl (by decide) rfl rfl ?_
        refine GT_skip rfl rfl rfl rfl rfl (by decide) rfl rfl ?_
        refine GT_skip rfl rfl rfl rfl rfl (by decide) rfl rfl ?_
        refine GT_skip rfl rfl rfl rfl rfl (by decide) rfl rfl ?_
        refine GT_skip rfl rfl rfl rfl rfl (by decide) rfl rfl ?_
        refine GT_skip rfl rfl rfl rfl rfl (by decide) rfl rfl ?_
        refine GT_skip rfl rfl rfl rfl rfl (by decide) rfl rfl ?_
        refine GT_skip rfl rfl rfl rfl rfl (by decide) rfl rfl ?_
        refine GT_skip rfl rfl rfl rfl rfl (by decide) rfl rfl ?_
        refine GT_skip rfl rfl rfl rfl rfl (by decide) rfl rfl ?_
        refine GT_skip rfl rfl rfl rfl rfl (by decide) rfl rfl ?_
        refine GT_skip rfl rfl rfl rfl rfl (by decide) rfl rfl ?_
        refine GT_skip rfl rfl rfl rfl rfl (by decide) rfl rfl ?_
        refine GT_skip rfl rfl rfl rfl rfl (by decide) rfl rfl ?_
        refine GT_skip rfl rfl rfl rfl rfl (by decide) rfl rfl ?_
        refine GT_skip rfl rfl rfl rfl rfl (by decide) rfl rfl ?_
        refine GT_skip rfl rfl rfl rfl rfl (by decide) rfl rfl ?_
        refine GT_st rfl rfl rfl rfl (V_pick_t rfl rfl rfl) ?_
        refine GT_nil ?_
        refine GE_cond_t rfl ?_
        refine GE_seq ?_
        refine GE_slots (L' := [(8, _)]) ⟨rfl, trivial⟩ ?_
        refine GE_plain (.st 0 (.ld 1 [] (.st 2 .nil))) rfl ?_
        refine GT_st rfl rfl rfl rfl (V_build (vs := [_, _]) rfl rfl zc_35 pl_35 sa_35 rfl) ?_
        refine GT_store (vs := [_, _]) (l' := [_, _]) rfl rfl rfl rfl rfl rfl rfl sz_35 rfl rfl (Nat.le_of_ble_eq_true rfl) rfl (GR_nil) ?_
        refine GT_st rfl rfl rfl rfl (V_assign rfl rfl) ?_
        refine GT_nil ?_
        refine GE_ret Tryd.func23 ⟨_, _, ⟨_, rfl, fun w m => run_loadVar_agg (vs := [_, _]) ag_35 sz_35 rfl (fun j v hj => CellsAt.item rfl j v hj w m)⟩, rfl, rfl⟩ (fun w hw => ⟨?_, hw.nil⟩)
        first | (have e : sndE l p i k = 3 := (by rw [sndE, if_pos hg, if_neg (by omega)]); rw [sndV, if_neg (by rw [e]; decide), e]) | (have e : sndE l p i k = 0 := (by rw [sndE, if_pos hg, if_pos (by omega)]); rw [sndV, if_pos e, e])
      · have hip : i.toNat < p.length := (by omega); have hbb := gd_bgn hG hip; have hprt := gd_prt hG hip
        refine GT_st_g rfl rfl rfl rfl rfl rfl rfl (V_move rfl rfl) ?_
        refine GT_st_g rfl rfl rfl rfl rfl rfl rfl (V_lss rfl rfl rfl) ?_
        refine GT_st rfl rfl rfl rfl (V_pick_f rfl rfl rfl) ?_
        refine GT_st rfl rfl rfl rfl (V_move rfl rfl) ?_
        first | refine GT_splitNot (d := 34) rfl (fun q3 => ?_) (fun q3 => ?_) | refine GT_split (d := 34) rfl (fun q3 => ?_) (fun q3 => ?_) | refine GT_splitNotB (d := 34) rfl (fun q3 => ?_) (fun q3 => ?_) | refine GT_splitB (d := 34) rfl (fun q3 => ?_) (fun q3 => ?_)
        · skip
          refine GT_skip rfl rfl rfl rfl rfl (by decide) rfl rfl ?_
          refine GT_skip rfl rfl rfl rfl rfl (by decide) rfl rfl ?_
          refine GT_skip rfl rfl rfl rfl rfl (by decide) rfl rfl ?_
          refine GT_skip rfl rfl rfl rfl rfl (by decide) rfl rfl ?_
          refine GT_skip rfl rfl rfl rfl rfl (by decide) rfl rfl ?_
          refine GT_skip rfl rfl rfl rfl rfl (by decide) rfl rfl ?_
          refine GT_skip rfl rfl rfl rfl rfl (by decide) rfl rfl ?_
          refine GT_skip rfl rfl rfl rfl rfl (by decide) rfl rfl ?_
          refine GT_skip rfl rfl rfl rfl rfl (by decide) rfl rfl ?_
          refine GT_skip rfl rfl rfl rfl rfl (by decide) rfl rfl ?_
          refine GT_skip rfl rfl rfl rfl rfl (by decide) rfl rfl ?_
          refine GT_skip rfl rfl rfl rfl rfl (by decide) rfl rfl ?_
          refine GT_skip rfl rfl rfl rfl rfl (by decide) rfl rfl ?_
          refine GT_skip rfl rfl rfl rfl rfl (by decide) rfl rfl ?_
          refine GT_skip rfl rfl rfl rfl rfl (by decide) rfl rfl ?_
          refine GT_skip rfl rfl rfl rfl rfl (by decide) rfl rfl ?_
          refine GT_skip rfl rfl rfl rfl rfl (by decide) rfl rfl ?_
          refine GT_skip rfl rfl rfl rfl rfl (by decide) rfl rfl ?_
          refine GT_skip rfl rfl rfl rfl rfl (by decide) rfl rfl ?_
          refine GT_st rfl rfl rfl rfl (V_pick_t rfl rfl rfl) ?_
          refine GT_nil ?_
          refine GE_cond_t rfl ?_
          refine GE_seq ?_
          refine GE_slots (L' := [(8, _)]) ⟨rfl, trivial⟩ ?_
          refine GE_plain (.st 0 (.ld 1 [] (.st 2 .nil))) rfl ?_
          refine GT_st rfl rfl rfl rfl (V_build (vs := [_, _]) rfl rfl zc_35 pl_35 sa_35 rfl) ?_
          refine GT_store (vs := [_, _]) (l' := [_, _]) rfl rfl rfl rfl rfl rfl rfl sz_35 rfl rfl (Nat.le_of_ble_eq_true rfl) rfl (GR_nil) ?_
          refine GT_st rfl rfl rfl rfl (V_assign rfl rfl) ?_
          refine GT_nil ?_
          refine GE_ret Tryd.func23 ⟨_, _, ⟨_, rfl, fun w m => run_loadVar_agg (vs := [_, _]) ag_35 sz_35 rfl (fun j v hj => CellsAt.item rfl j v hj w m)⟩, rfl, rfl⟩ (fun w hw => ⟨?_, hw.nil⟩)
          first | (have e : sndE l p i k = 3 := (by rw [sndE, if_pos hg, if_neg (by omega)]); rw [sndV, if_neg (by rw [e]; decide), e]) | (have e : sndE l p i k = 0 := (by rw [sndE, if_pos hg, if_pos (by omega)]); rw [sndV, if_pos e, e])
        · skip
          refine GT_st_g rfl rfl rfl rfl rfl rfl rfl (V_move rfl rfl) ?_
          refine GT_st_g rfl rfl rfl rfl rfl rfl rfl (V_move rfl rfl) ?_
          first | refine GT_st_g rfl rfl rfl rfl rfl rfl rfl (V_nilCheck rfl rfl) ?_ | refine GT_st_g rfl rfl rfl rfl rfl rfl rfl (V_nilCheck_func rfl rfl) ?_ | refine GT_st_g rfl rfl rfl rfl rfl rfl rfl (V_nilCheck_yield rfl rfl) ?_
          first | refine GT_st_g rfl rfl rfl rfl rfl rfl rfl (V_field rfl rfl fo_81_1) ?_ | refine GT_st_g rfl rfl rfl rfl rfl rfl rfl (V_fieldA rfl rfl fo_81_1) ?_
          refine GT_st_g rfl rfl rfl rfl rfl rfl rfl (V_load rfl rfl ag_79 (CellAt.item rfl)) ?_
          refine GT_st_g rfl rfl rfl rfl rfl rfl rfl (V_move rfl rfl) ?_
          refine GT_st_g rfl rfl rfl rfl rfl rfl rfl (V_index rfl rfl rfl Tryd.underlying79 sz_83 (k := i.toNat) (by omega) hip (hy.isSome (k := i.toNat) (by rw [plcs_len]; exact hip))) ?_
          first | refine GT_st_g rfl rfl rfl rfl rfl rfl rfl (V_field rfl rfl fo_83_3) ?_ | refine GT_st_g rfl rfl rfl rfl rfl rfl rfl (V_fieldA rfl rfl fo_83_3) ?_
          refine GT_st_g rfl rfl rfl rfl rfl rfl rfl (V_load rfl rfl ag_3 (CellAt.own (j := 9) hy ePlc_len (by rw [plcs_len]; exact hip) (by rw [plcs_get hip]; exact (show (ePlc (plc p i.toNat))[9]? = some (I (en p i.toNat)) from rfl)))) ?_
          refine GT_st_g rfl rfl rfl rfl rfl rfl rfl (V_move rfl rfl) ?_
          first | refine GT_st_g rfl rfl rfl rfl rfl rfl rfl (V_nilCheck rfl rfl) ?_ | refine GT_st_g rfl rfl rfl rfl rfl rfl rfl (V_nilCheck_func rfl rfl) ?_ | refine GT_st_g rfl rfl rfl rfl rfl rfl rfl (V_nilCheck_yield rfl rfl) ?_
          first | refine GT_st_g rfl rfl rfl rfl rfl rfl rfl (V_field rfl rfl fo_81_1) ?_ | refine GT_st_g rfl rfl rfl rfl rfl rfl rfl (V_fieldA rfl rfl fo_81_1) ?_
          refine GT_st_g rfl rfl rfl rfl rfl rfl rfl (V_load rfl rfl ag_79 (CellAt.item rfl)) ?_
          refine GT_st_g rfl rfl rfl rfl rfl rfl rfl (V_move rfl rfl) ?_
          refine GT_st_g rfl rfl rfl rfl rfl rfl rfl (V_index rfl rfl rfl Tryd.underlying79 sz_83 (k := i.toNat) (by omega) hip (hy.isSome (k := i.toNat) (by rw [plcs_len]; exact hip))) ?_
          first | refine GT_st_g rfl rfl rfl rfl rfl rfl rfl (V_field rfl rfl fo_83_2) ?_ | refine GT_st_g rfl rfl rfl rfl rfl rfl rfl (V_fieldA rfl rfl fo_83_2) ?_
          refine GT_st_g rfl rfl rfl rfl rfl rfl rfl (V_load rfl rfl ag_3 (CellAt.own (j := 8) hy ePlc_len (by rw [plcs_len]; exact hip) (by rw [plcs_get hip]; exact (show (ePlc (plc p i.toNat))[8]? = some (I (bgn p i.toNat)) from rfl)))) ?_
          refine GT_st_g rfl rfl rfl rfl rfl rfl rfl (V_sub rfl rfl rfl ((wrap_i64 (by omega)).trans (show _ = lng (pt p i.toNat) by omega))) ?_
          refine GT_st_g rfl rfl rfl rfl rfl rfl rfl (V_geq rfl rfl rfl) ?_
          refine GT_st rfl rfl rfl rfl (V_pick_f rfl rfl rfl) ?_
          refine GT_nil ?_
          first | refine GE_condNot rfl (fun q4 => ?_) (fun q4 => ?_) | refine GE_cond rfl (fun q4 => ?_) (fun q4 => ?_) | refine GE_condNotB rfl (fun q4 => ?_) (fun q4 => ?_) | refine GE_condB rfl (fun q4 => ?_) (fun q4 => ?_)
          · skip
            refine GE_seq ?_
            refine GE_slots (L' := [(8, _)]) ⟨rfl, trivial⟩ ?_
            refine GE_plain (.st 0 (.ld 1 [] (.st 2 .nil))) rfl ?_
            refine GT_st rfl rfl rfl rfl (V_build (vs := [_, _]) rfl rfl zc_35 pl_35 sa_35 rfl) ?_
            refine GT_store (vs := [_, _]) (l' := [_, _]) rfl rfl rfl rfl rfl rfl rfl sz_35 rfl rfl (Nat.le_of_ble_eq_true rfl) rfl (GR_nil) ?_
            refine GT_st rfl rfl rfl rfl (V_assign rfl rfl) ?_
            refine GT_nil ?_
            refine GE_ret Tryd.func23 ⟨_, _, ⟨_, rfl, fun w m => run_loadVar_agg (vs := [_, _]) ag_35 sz_35 rfl (fun j v hj => CellsAt.item rfl j v hj w m)⟩, rfl, rfl⟩ (fun w hw => ⟨?_, hw.nil⟩)
            first | (have e : sndE l p i k = 3 := (by rw [sndE, if_pos hg, if_neg (by omega)]); rw [sndV, if_neg (by rw [e]; decide), e]) | (have e : sndE l p i k = 0 := (by rw [sndE, if_pos hg, if_pos (by omega)]); rw [sndV, if_pos e, e])
          · have hlev := (hP.each i.toNat hip).lev
            refine GE_skip ?_
            refine GE_seq ?_
            refine GE_slots (L' := [(1, _), (2, _), (3, _), (8, _), (10, _)]) ⟨rfl, rfl, rfl, rfl, rfl, trivial⟩ ?_
            refine GE_drawn (.st 0 (.st 1 (.st 2 (.st 3 (.st 4 (.st 5 (.st 6 (.st 7 (.st 8 (.st 9 (.st 10 (.st 11 (.st 12 (.st 13 (.ld 14 [] (.ld 15 [] (.st 16 .nil))))))))))))))))) [14, 15] (by decide +kernel) ?_
            refine GT_st rfl rfl rfl rfl (V_move rfl rfl) ?_
            refine GT_st rfl rfl rfl rfl (V_move rfl rfl) ?_
            first | refine GT_st rfl rfl rfl rfl (V_nilCheck rfl rfl) ?_ | refine GT_st rfl rfl rfl rfl (V_nilCheck_func rfl rfl) ?_ | refine GT_st rfl rfl rfl rfl (V_nilCheck_yield rfl rfl) ?_
            first | refine GT_st rfl rfl rfl rfl (V_field rfl rfl fo_81_1) ?_ | refine GT_st rfl rfl rfl rfl (V_fieldA rfl rfl fo_81_1) ?_
            refine GT_st rfl rfl rfl rfl (V_load rfl rfl ag_79 (CellAt.item rfl)) ?_
            refine GT_st rfl rfl rfl rfl (V_move rfl rfl) ?_
            refine GT_st rfl rfl rfl rfl (V_index rfl rfl rfl Tryd.underlying79 sz_83 (k := i.toNat) (by omega) hip (hy.isSome (k := i.toNat) (by rw [plcs_len]; exact hip))) ?_
            refine GT_st rfl rfl rfl rfl (V_loadN (vs := [_, _, _, _, _, _, _, _, _, _]) rfl rfl ag_83 sz_83 rfl (CellsAt.ownE hy ePlc_len (by rw [plcs_len]; exact hip) (by rw [plcs_get hip, ePlc_plc]))) ?_
            refine GT_st rfl rfl rfl rfl (V_move rfl rfl) ?_
            refine GT_st rfl rfl rfl rfl (V_move rfl rfl) ?_
            refine GT_st rfl rfl rfl rfl (V_move rfl rfl) ?_
            refine GT_st rfl rfl rfl rfl (V_index rfl rfl rfl Tryd.underlying31 sz_30 (k := i.toNat) (by omega) hip (hp.isSome hip)) ?_
            first | refine GT_st rfl rfl rfl rfl (V_field rfl rfl fo_30_6) ?_ | refine GT_st rfl rfl rfl rfl (V_fieldA rfl rfl fo_30_6) ?_
            refine GT_st rfl rfl rfl rfl (V_load rfl rfl ag_2 (hp.at1 noM hip (show _ = some (I (pt p i.toNat).lev) from rfl))) ?_
            refine GT_call0 rfl rfl rfl rfl rfl rfl rfl rfl rn_48 (fun w hw => C_sound (i := i.toNat) (k := k) (lev := (pt p i.toNat).lev) hip hP (by omega) (by omega) (by omega) (by omega) (h.sh hw) (BlkAt.of hw)) (GR_nil) ?_
            refine GT_store (vs := [_, _]) (l' := [_, _]) rfl rfl rfl rfl rfl rfl rfl sz_35 rfl rfl (Nat.le_of_ble_eq_true rfl) rfl (GR_nil) ?_
            refine GT_st rfl rfl rfl rfl (V_assign rfl rfl) ?_
            refine GT_nil ?_
            refine GE_ret Tryd.func23 ⟨_, _, ⟨_, rfl, fun w m => run_loadVar_agg (vs := [_, _]) ag_35 sz_35 rfl (fun j v hj => CellsAt.item rfl j v hj w m)⟩, rfl, rfl⟩ (fun w hw => ⟨?_, hw.nil⟩)
            first | (have e : sndE l p i k = 3 := (by rw [sndE, if_pos hg, if_neg (by omega)]); rw [sndV, if_neg (by rw [e]; decide), e]) | (have e : sndE l p i k = 0 := (by rw [sndE, if_pos hg, if_pos (by omega)]); rw [sndV, if_pos e, e])
  · have e : sndE l p i k = gErr l p := by rw [sndE, if_neg hg]
    refine Ret_of (vs := [_, _, _, _]) hm none' Tryd.func23 rfl Tryd.ntmps23 rfl ?_
    dsimp only [slotsOf]
    refine GE_seq ?_
    refine GE_plain (.ld 0 [] (.st 1 .nil)) rfl ?_
    refine GT_alloc rfl rfl rfl rfl rfl zc_35 (fun _ => GR_nil) (fun b8 => ?_)
    refine GT_st rfl rfl rfl rfl (V_assign rfl rfl) ?_
    refine GT_nil ?_
    refine GE_seq ?_
    refine GE_plain (.st 0 (.st 1 (.ld 2 [] (.st 3 (.st 4 (.st 5 (.st 6 (.st 7 .nil)))))))) rfl ?_
    refine GT_st rfl rfl rfl rfl (V_move rfl rfl) ?_
    refine GT_st rfl rfl rfl rfl (V_move rfl rfl) ?_
    refine GT_call0 rfl rfl rfl rfl rfl rfl rfl rfl rn_46 (fun w hw => C_new_bad (h.sh hw) (hp.sh hw) hg) (GR_nil) ?_
    refine GT_st rfl rfl rfl rfl (V_move rfl rfl) ?_
    refine GT_st rfl rfl rfl rfl (V_extract rfl rfl rfl) ?_
    refine GT_st rfl rfl rfl rfl (V_extract rfl rfl rfl) ?_
    refine GT_st rfl rfl rfl rfl (V_assign rfl rfl) ?_
    refine GT_st rfl rfl rfl rfl (V_assign rfl rfl) ?_
    refine GT_nil ?_
    refine GE_seq ?_
    refine GE_seq ?_
    refine GE_slots (L' := [(1, _), (2, _), (3, _), (8, _), (10, _), (11, _)]) ⟨rfl, rfl, rfl, rfl, rfl, rfl, trivial⟩ ?_
    refine GE_plain (.st 0 (.st 1 .nil)) rfl ?_
    refine GT_st rfl rfl rfl rfl (V_move rfl rfl) ?_
    refine GT_st rfl rfl rfl rfl (V_isT (V_neq rfl rfl rfl) hg) ?_
    refine GT_nil ?_
    refine GE_cond_t rfl ?_
    refine GE_seq ?_
    refine GE_slots (L' := [(8, _), (11, _)]) ⟨rfl, rfl, trivial⟩ ?_
    refine GE_plain (.st 0 (.st 1 (.ld 2 [] (.st 3 .nil)))) rfl ?_
    refine GT_st rfl rfl rfl rfl (V_build (vs := [_, _]) rfl rfl zc_35 pl_35 sa_35 rfl) ?_
    refine GT_st rfl rfl rfl rfl (V_move rfl rfl) ?_
    refine GT_store (vs := [_, _]) (l' := [_, _]) rfl rfl rfl rfl rfl rfl rfl sz_35 rfl rfl (Nat.le_of_ble_eq_true rfl) rfl (GR_nil) ?_
    refine GT_st rfl rfl rfl rfl (V_assign rfl rfl) ?_
    refine GT_nil ?_
    refine GE_ret Tryd.func23 ⟨_, _, ⟨_, rfl, fun w m => run_loadVar_agg (vs := [_, _]) ag_35 sz_35 rfl (fun j v hj => CellsAt.item rfl j v hj w m)⟩, rfl, rfl⟩ (fun w hw => ⟨?_, hw.nil⟩)
    rw [sndV, if_neg (by rw [e]; exact hg), e]; rfl
end
end Go.Proofs.YtnklkobhjdkblaaDoor

namespace Go.Proofs.YtnklkobhjdkblaaDoor
open Go.Sx Go.Proofs Go.RowKit

def stL (l : List Tk) (p : List Prt) : List Int := if gErr l p = 0 then bgns p p.length else []
def stN (l : List Tk) (p : List Prt) : Int := if gErr l p = 0 then fin p else 0
section
variable {w : World} {A A2 : Option Addr} {c c2 : Nat} {l : List Tk} {p : List Prt} {t : Int}
theorem gd_of (h : ProgOk l p) : Gd l p := ⟨h.tks, h.most, h.each⟩
abbrev OI := Option Addr × Nat × Items
end
end Go.Proofs.YtnklkobhjdkblaaDoor

namespace Go.Proofs.YtnklkobhjdkblaaDoor
open Go.Sx Go.Proofs Go.RowKit

theorem rendL_len {l : List Tk} {p : List Prt} (h : ProgOk l p) : (rendL l p).length ≤ (fin p).toNat ∧ (rErr l p = 0 → (rendL l p).length = (fin p).toNat) := by
  unfold rendL
  split
  · rw [rend, mix_len]; exact ⟨Nat.le_refl _, fun _ => rfl⟩
  · rename_i hn; exact ⟨Nat.zero_le _, fun e => absurd e hn⟩
section
variable {w : World} {A A2 : Option Addr} {c c2 : Nat} {l : List Tk} {p : List Prt} {t : Int}
end
end Go.Proofs.YtnklkobhjdkblaaDoor

namespace Go.Proofs.YtnklkobhjdkblaaDoor
open Go.Sx Go.Proofs Go.RowKit

structure Src where
  part : Int
  tk : Int
  ix : Int
instance : Inhabited Src := ⟨⟨0, 0, 0⟩⟩
def eSrc (x : Src) : List Value := [I x.part, I x.tk, I x.ix]
theorem eSrc_len (x : Src) : (eSrc x).length = 3 := rfl
theorem eSrc_one : ∀ x, ∀ u ∈ eSrc x, u.oneCell' = true := by intro x u hu; simp only [eSrc, List.mem_cons, List.not_mem_nil, or_false] at hu; rcases hu with rfl | rfl | rfl <;> rfl
def src (p : List Prt) (t : Int) (i : Nat) : Src := ⟨i, (pt p i).tk, (pt p i).fr + (t - bgn p i)⟩
def srcs (p : List Prt) (t : Int) (n : Nat) : List Src := (sndI p t n).map (src p t)
theorem srcs_len (p : List Prt) (t : Int) (n : Nat) : (srcs p t n).length ≤ n := by unfold srcs; rw [List.length_map]; exact sndI_len p t n
def soE (l : List Tk) (p : List Prt) (t : Int) : Int := if gErr l p = 0 then (if t < 0 ∨ fin p ≤ t then 3 else 0) else gErr l p
def soL (l : List Tk) (p : List Prt) (t : Int) : List Src := if soE l p t = 0 then srcs p t p.length else []
section
variable {w : World} {A A2 : Option Addr} {c c2 : Nat} {l : List Tk} {p : List Prt} {t : Int}
theorem C_Starts (h : Tks w A l) (hp : RdL w 7 ePrt A2 p) : Con Tryd.prog 35 [.slice A l.length c, .slice A2 p.length c2] w (fun y : OI => Own 1 3 eI (stL l p) (.slice y.1 (stL l p).length y.2.1) y.2.2)
    (fun y => .tuple #[.slice y.1 (stL l p).length y.2.1, I (stN l p), I (gErr l p)]) (fun y => y.2.2) := by
  by_cases hg : gErr l p = 0
  · have hP := gErr_zero.1 hg
    have hmo := hP.most
    have e1 : stL l p = bgns p p.length := if_pos hg
    have e2 : stN l p = fin p := if_pos hg
    refine Ret_of (vs := [_, _]) hm none' Tryd.func35 rfl Tryd.ntmps35 rfl ?_
    dsimp only [slotsOf]
    refine GE_seq ?_
    refine GE_plain (.st 0 (.st 1 (.st 2 .nil))) rfl ?_
    refine GT_st rfl rfl rfl rfl (V_assign rfl rfl) ?_
    refine GT_st rfl rfl rfl rfl (V_assign rfl rfl) ?_
    refine GT_st rfl rfl rfl rfl (V_assign rfl rfl) ?_
    refine GT_nil ?_
    refine GE_seq ?_
    refine GE_plain (.st 0 (.st 1 (.ld 2 [] (.st 3 (.st 4 (.st 5 (.st 6 (.st 7 .nil)))))))) rfl ?_
    refine GT_st rfl rfl rfl rfl (V_move rfl rfl) ?_
    refine GT_st rfl rfl rfl rfl (V_move rfl rfl) ?_
    refine GT_call rfl rfl rfl rfl rfl rfl rfl rfl rn_46 (fun w hw => C_new_ok (h.sh hw) (hp.sh hw) hg) (fun _ _ => GR_nil) (fun y hy => ?_)
    refine GT_st rfl rfl rfl rfl (V_move rfl rfl) ?_
    refine GT_st rfl rfl rfl rfl (V_extract rfl rfl rfl) ?_
    refine GT_st rfl rfl rfl rfl (V_extract rfl rfl rfl) ?_
    refine GT_st rfl rfl rfl rfl (V_assign rfl rfl) ?_
    refine GT_st rfl rfl rfl rfl (V_assign rfl rfl) ?_
    refine GT_nil ?_
    refine GE_seq ?_
    refine GE_seq ?_
    refine GE_slots (L' := [(7, _), (8, _)]) ⟨rfl, rfl, trivial⟩ ?_
    refine GE_plain (.st 0 (.st 1 .nil)) rfl ?_
    refine GT_st rfl rfl rfl rfl (V_move rfl rfl) ?_
    refine GT_st rfl rfl rfl rfl (V_isF (V_neq rfl rfl rfl) (by decide)) ?_
    refine GT_nil ?_
    refine GE_cond_f rfl ?_
    refine GE_skip ?_
    refine GE_seq ?_
    refine GE_plain (.st 0 .nil) rfl ?_
    refine GT_st rfl rfl rfl rfl (V_assign rfl rfl) ?_
    refine GT_nil ?_
    refine GE_seq ?_
    refine GE_seq ?_
    refine GE_plain (.st 0 (.st 1 (.st 2 (.st 3 (.st 4 (.st 5 .nil)))))) rfl ?_
    refine GT_st rfl rfl rfl rfl (V_move rfl rfl) ?_
    first | refine GT_st rfl rfl rfl rfl (V_nilCheck rfl rfl) ?_ | refine GT_st rfl rfl rfl rfl (V_nilCheck_func rfl rfl) ?_ | refine GT_st rfl rfl rfl rfl (V_nilCheck_yield rfl rfl) ?_
    first | refine GT_st rfl rfl rfl rfl (V_field rfl rfl fo_81_1) ?_ | refine GT_st rfl rfl rfl rfl (V_fieldA rfl rfl fo_81_1) ?_
    refine GT_st rfl rfl rfl rfl (V_load rfl rfl ag_79 (CellAt.item rfl)) ?_
    refine GT_st rfl rfl rfl rfl (V_len rfl Tryd.underlying79 rfl) ?_
    refine GT_st rfl rfl rfl rfl (V_move rfl rfl) ?_
    refine GT_nil ?_
    refine GE_block ?_
    refine GE_to (GE_loop (ι := Nat × OI) (fun z => p.length - z.1) (fun z => [(7, ptr y.1 0), (9, .slice z.2.1 z.1 z.2.2.1), (24, .slice y.2.1 p.length y.2.2.1), (25, I p.length), (26, I z.1)]) (fun z => (y.1, blk [.slice A l.length c, .slice y.2.1 p.length y.2.2.1, I (fin p)] 81) :: (y.2.2.2 ++ z.2.2.2)) (fun z => z.1 ≤ p.length ∧ Own 1 3 eI (bgns p z.1) (.slice z.2.1 z.1 z.2.2.1) z.2.2.2) ?_ (0, none, 0, []) ?_) ⟨rfl, rfl, rfl, rfl, rfl, trivial⟩ (HS.eq (X := (y.1, blk [.slice A l.length c, .slice y.2.1 p.length y.2.2.1, I (fin p)] 81) :: y.2.2.2) (HS.cons rfl HS.last) (by simp))
    · rintro ⟨k, A3, c3, I3⟩ ⟨hk, hO⟩ ih; dsimp only at hk hO ih ⊢
      refine GE_seq ?_
      refine GE_plain (.st 0 .nil) rfl ?_
      refine GT_st rfl rfl rfl rfl (V_lss rfl rfl rfl) ?_
      refine GT_nil ?_
      refine GE_seq ?_
      first | refine GE_condNot rfl (fun q1 => ?_) (fun q1 => ?_) | refine GE_cond rfl (fun q1 => ?_) (fun q1 => ?_) | refine GE_condNotB rfl (fun q1 => ?_) (fun q1 => ?_) | refine GE_condB rfl (fun q1 => ?_) (fun q1 => ?_)
      · have hkl : k < p.length := (by omega)
        refine GE_skip ?_
        refine GE_seq ?_
        refine GE_block ?_
        refine GE_seq ?_
        refine GE_plain (.st 0 (.st 1 (.ld 2 [] (.ld 3 [] .nil)))) rfl ?_
        refine GT_st rfl rfl rfl rfl (V_index rfl rfl rfl Tryd.underlying79 sz_83 (k := k) rfl hkl (hy.isSome (k := k) (by rw [plcs_len]; exact hkl))) ?_
        refine GT_st rfl rfl rfl rfl (V_loadN (vs := [_, _, _, _, _, _, _, _, _, _]) rfl rfl ag_83 sz_83 rfl (CellsAt.ownE hy ePlc_len (by rw [plcs_len]; exact hkl) (by rw [plcs_get hkl, ePlc_plc]))) ?_
        refine GT_alloc rfl rfl rfl rfl rfl zc_83 (fun _ => GR_nil) (fun b11 => ?_)
        refine GT_store (vs := [_, _, _, _, _, _, _, _, _, _]) (l' := [_, _, _, _, _, _, _, _, _, _]) rfl rfl rfl rfl rfl rfl rfl sz_83 rfl rfl (Nat.le_of_ble_eq_true rfl) rfl (GR_nil) ?_
        refine GT_nil ?_
        refine GE_plain (.st 0 (.st 1 (.st 2 (.ld 3 [] (.ld 4 [] (.ld 5 [] .nil)))))) rfl ?_
        refine GT_st rfl rfl rfl rfl (V_move rfl rfl) ?_
        first | refine GT_st rfl rfl rfl rfl (V_field rfl rfl fo_83_2) ?_ | refine GT_st rfl rfl rfl rfl (V_fieldA rfl rfl fo_83_2) ?_
        refine GT_st rfl rfl rfl rfl (V_load rfl rfl ag_3 (CellAt.item rfl)) ?_
        refine GT_buildSlice (z := [_]) rfl rfl rfl rfl rfl Tryd.underlying62 zc_3 sz_3 (by decide) rfl rfl (fun _ => GR_nil) (fun b33 => ?_)
        refine GT_append (enc := eI) (m := [bgn p k]) rfl rfl rfl rfl rfl rfl rfl hO (fun w m => RdL.own' m eI_len) Tryd.underlying62 zc_3 sz_3 ⟨rfl, by decide⟩ by_3 ⟨by rw [bgns_len]; simp only [List.length_singleton]; omega, by rw [bgns_len]; simp only [List.length_singleton]; omega⟩ eI_len eI_one (fun _ _ _ _ => GR_nil) (fun A3' c3' I3' hO2 => ?_)
        rw [← bgns_succ, bgns_len] at hO2 ⊢
        refine GT_ldv rfl rfl rfl rfl rfl (V_assign rfl rfl) (GR_nil) ?_
        refine GT_nil ?_
        refine GE_inBlock ?_
        refine GE_slots (L' := [(7, _), (9, _), (24, _), (25, _), (26, _)]) ⟨rfl, rfl, rfl, rfl, rfl, trivial⟩ ?_
        refine GE_plain (.st 0 (.ld 1 [] .nil)) rfl ?_
        refine GT_st rfl rfl rfl rfl (V_add rfl rfl rfl (wrap_i64 (by omega))) ?_
        refine GT_ldv rfl rfl rfl rfl rfl (V_move rfl rfl) (GR_nil) ?_
        refine GT_nil ?_
        exact GE_to (ih (k + 1, A3', c3', I3') ⟨by dsimp only; omega, hO2⟩ (by dsimp only; omega)) ⟨rfl, rfl, rfl, rfl, rfl, trivial⟩ (HS.cons rfl (HS.chunk HS.last))
      · obtain rfl : k = p.length := (by omega)
        refine GE_exit rfl ?_
        refine GE_seq ?_
        refine GE_slots (L' := [(7, _), (9, _)]) ⟨rfl, rfl, trivial⟩ ?_
        refine GE_drawn (.st 0 (.st 1 (.st 2 (.st 3 (.st 4 (.st 5 (.st 6 (.st 7 .nil)))))))) [] (by decide +kernel) ?_
        refine GT_st rfl rfl rfl rfl (V_move rfl rfl) ?_
        refine GT_st rfl rfl rfl rfl (V_move rfl rfl) ?_
        first | refine GT_st rfl rfl rfl rfl (V_nilCheck rfl rfl) ?_ | refine GT_st rfl rfl rfl rfl (V_nilCheck_func rfl rfl) ?_ | refine GT_st rfl rfl rfl rfl (V_nilCheck_yield rfl rfl) ?_
        first | refine GT_st rfl rfl rfl rfl (V_field rfl rfl fo_81_2) ?_ | refine GT_st rfl rfl rfl rfl (V_fieldA rfl rfl fo_81_2) ?_
        refine GT_st rfl rfl rfl rfl (V_load rfl rfl ag_3 (CellAt.item rfl)) ?_
        refine GT_st rfl rfl rfl rfl (V_assign rfl rfl) ?_
        refine GT_st rfl rfl rfl rfl (V_assign rfl rfl) ?_
        refine GT_st rfl rfl rfl rfl (V_assign rfl rfl) ?_
        refine GT_nil ?_
        refine GE_ret Tryd.func35 ⟨_, _, _, rfl, rfl, rfl, rfl⟩ (fun w hw => ?_)
        exact ⟨(A3, c3, I3), by rw [e1, bgns_len]; exact hO, by rw [e1, e2, bgns_len, hg], hw.hs (C := cx Tryd.prog hm 0 0 _ none' fun _ _ => True) HS.last⟩
    · exact ⟨Nat.zero_le _, Own.nil⟩
  · have e1 : stL l p = [] := if_neg hg
    have e2 : stN l p = 0 := if_neg hg
    refine Ret_of (vs := [_, _]) hm none' Tryd.func35 rfl Tryd.ntmps35 rfl ?_
    dsimp only [slotsOf]
    refine GE_seq ?_
    refine GE_plain (.st 0 (.st 1 (.st 2 .nil))) rfl ?_
    refine GT_st rfl rfl rfl rfl (V_assign rfl rfl) ?_
    refine GT_st rfl rfl rfl rfl (V_assign rfl rfl) ?_
    refine GT_st rfl rfl rfl rfl (V_assign rfl rfl) ?_
    refine GT_nil ?_
    refine GE_seq ?_
    refine GE_plain (.st 0 (.st 1 (.ld 2 [] (.st 3 (.st 4 (.st 5 (.st 6 (.st 7 .nil)))))))) rfl ?_
    refine GT_st rfl rfl rfl rfl (V_move rfl rfl) ?_
    refine GT_st rfl rfl rfl rfl (V_move rfl rfl) ?_
    refine GT_call0 rfl rfl rfl rfl rfl rfl rfl rfl rn_46 (fun w hw => C_new_bad (h.sh hw) (hp.sh hw) hg) (GR_nil) ?_
    refine GT_st rfl rfl rfl rfl (V_move rfl rfl) ?_
    refine GT_st rfl rfl rfl rfl (V_extract rfl rfl rfl) ?_
    refine GT_st rfl rfl rfl rfl (V_extract rfl rfl rfl) ?_
    refine GT_st rfl rfl rfl rfl (V_assign rfl rfl) ?_
    refine GT_st rfl rfl rfl rfl (V_assign rfl rfl) ?_
    refine GT_nil ?_
    refine GE_seq ?_
    refine GE_seq ?_
    refine GE_slots (L' := [(7, _), (8, _)]) ⟨rfl, rfl, trivial⟩ ?_
    refine GE_plain (.st 0 (.st 1 .nil)) rfl ?_
    refine GT_st rfl rfl rfl rfl (V_move rfl rfl) ?_
    refine GT_st rfl rfl rfl rfl (V_isT (V_neq rfl rfl rfl) hg) ?_
    refine GT_nil ?_
    refine GE_cond_t rfl ?_
    refine GE_seq ?_
    refine GE_plain (.st 0 (.st 1 (.st 2 (.st 3 .nil)))) rfl ?_
    refine GT_st rfl rfl rfl rfl (V_move rfl rfl) ?_
    refine GT_st rfl rfl rfl rfl (V_assign rfl rfl) ?_
    refine GT_st rfl rfl rfl rfl (V_assign rfl rfl) ?_
    refine GT_st rfl rfl rfl rfl (V_assign rfl rfl) ?_
    refine GT_nil ?_
    refine GE_ret Tryd.func35 ⟨_, _, _, rfl, rfl, rfl, rfl⟩ (fun w hw => ?_)
    exact ⟨(none, 0, []), by rw [e1]; exact Own.nil, by rw [e1, e2]; rfl, hw.nil⟩
theorem C_at {g : Nat} : Con Tryd.prog 62 [ptr g 0, I t] w (fun _ : Nat × Nat => True) (fun y => .func (.func 73) #[] #[ptr y.1 0, ptr y.2 0]) (fun y => [(y.1, blk [ptr g 0] 76), (y.2, blk [I t] 3)]) := by
  refine Ret_of (vs := [_, _]) hm none' Tryd.func62 rfl Tryd.ntmps62 rfl ?_
  dsimp only [slotsOf]
  refine GE_seq ?_
  refine GE_plain (.ld 0 [] (.ld 1 [] (.st 2 .nil))) rfl ?_
  refine GT_box (z := [_]) rfl rfl rfl rfl rfl rfl rfl (fun _ => GR_nil) (fun b2 => ?_)
  refine GT_box (z := [_]) rfl rfl rfl rfl rfl rfl rfl (fun _ => GR_nil) (fun b3 => ?_)
  refine GT_st rfl rfl rfl rfl (V_assign rfl rfl) ?_
  refine GT_nil ?_
  refine GE_seq ?_
  refine GE_plain (.st 0 (.st 1 .nil)) rfl ?_
  refine GT_st rfl rfl rfl rfl (V_makeFunc rfl rfl rfl) ?_
  refine GT_st rfl rfl rfl rfl (V_assign rfl rfl) ?_
  refine GT_nil ?_
  refine GE_ret Tryd.func62 rfl (fun w hw => ?_)
  exact ⟨(b2, b3), trivial, rfl, hw.hs (C := cx Tryd.prog hm 0 0 _ none' fun _ _ => True) (HS.cons rfl (HS.cons rfl HS.nil))⟩
set_option maxRecDepth 10000 in
theorem C_at1 {A' : Option Addr} {c' g b1 b2 lp : Nat} {I' G J : Items} {w0 : World} {Q : List Nat → Items → Prop} (hO : Own 10 83 ePlc (plcs p p.length) (.slice A' p.length c') I') (hG : Gd l p) (ht : -1000000 ≤ t ∧ t ≤ 1000000)
    (hY : ∀ pre i J, i < p.length → (bgn p i ≤ t ∧ t < en p i) → pre ++ [i] = sndI p t (i + 1) → Q pre J → ∀ G, YieldTo Tryd.prog w0 none' lp [.agg #[I (pt p i).tk, I (pt p i).fr, I (pt p i).to, I (pt p i).gap, I (pt p i).inn, I (pt p i).out, I (pt p i).lev, I i, I (bgn p i), I (en p i)], I (t - bgn p i)] (J ++ G) fun v H' => ∃ J', v = .bool true ∧ Q (pre ++ [i]) J' ∧ H' = J' ++ G)
    (hQ : Q [] J) (m : SH w0 none' (J ++ ((b1, blk [ptr g 0] 76) :: (b2, blk [I t] 3) :: (g, blk [.slice A l.length c, .slice A' p.length c', I (fin p)] 81) :: (I' ++ G))) w) :
    Ret Tryd.prog 73 [.func (.yield lp) #[] #[], ptr b1 0, ptr b2 0].toArray w fun v w' => ∃ J', Q (sndI p t p.length) J' ∧ SH w0 none' (J' ++ ((b1, blk [ptr g 0] 76) :: (b2, blk [I t] 3) :: (g, blk [.slice A l.length c, .slice A' p.length c', I (fin p)] 81) :: (I' ++ G))) w' := by
  have hmo := hG.most
  refine Ret_ofH (vs := [_, _, _]) hm none' Tryd.func73 rfl Tryd.ntmps73 rfl m ?_
  dsimp only [slotsOf]
  refine GE_seq ?_
  refine GE_plain (.st 0 (.st 1 (.st 2 (.st 3 (.st 4 (.st 5 .nil)))))) rfl ?_
  refine GT_st rfl rfl rfl rfl (V_load rfl rfl ag_76 (CellAt.item rfl)) ?_
  first | refine GT_st rfl rfl rfl rfl (V_nilCheck rfl rfl) ?_ | refine GT_st rfl rfl rfl rfl (V_nilCheck_func rfl rfl) ?_ | refine GT_st rfl rfl rfl rfl (V_nilCheck_yield rfl rfl) ?_
  first | refine GT_st rfl rfl rfl rfl (V_field rfl rfl fo_81_1) ?_ | refine GT_st rfl rfl rfl rfl (V_fieldA rfl rfl fo_81_1) ?_
  refine GT_st rfl rfl rfl rfl (V_load rfl rfl ag_79 (CellAt.item rfl)) ?_
  refine GT_st rfl rfl rfl rfl (V_len rfl Tryd.underlying79 rfl) ?_
  refine GT_st rfl rfl rfl rfl (V_move rfl rfl) ?_
  refine GT_nil ?_
  refine GE_block ?_
  refine GE_to (GE_loop (ι := Nat × Items) (fun x => p.length - x.1) (fun x => [(0, .func (.yield lp) #[] #[]), (2, ptr b2 0), (9, .slice A' p.length c'), (10, I p.length), (11, I x.1)]) (fun x => x.2 ++ ((b1, blk [ptr g 0] 76) :: (b2, blk [I t] 3) :: (g, blk [.slice A l.length c, .slice A' p.length c', I (fin p)] 81) :: (I' ++ G))) (fun x => x.1 ≤ p.length ∧ Q (sndI p t x.1) x.2) ?_ (0, J) ?_) ⟨rfl, rfl, rfl, rfl, rfl, trivial⟩ (HS.chunk (HS.cons rfl (HS.cons rfl (HS.cons rfl HS.last))))
  · rintro ⟨k, J1⟩ ⟨hk, hQ1⟩ ih; dsimp only at hk hQ1 ih ⊢
    refine GE_seq ?_
    refine GE_plain (.st 0 .nil) rfl ?_
    refine GT_st rfl rfl rfl rfl (V_lss rfl rfl rfl) ?_
    refine GT_nil ?_
    refine GE_seq ?_
    first | refine GE_condNot rfl (fun h1 => ?_) (fun h1 => ?_) | refine GE_cond rfl (fun h1 => ?_) (fun h1 => ?_) | refine GE_condNotB rfl (fun h1 => ?_) (fun h1 => ?_) | refine GE_condB rfl (fun h1 => ?_) (fun h1 => ?_)
    · have hkl : k < p.length := (by omega); have hbb := gd_bgn hG hkl
      refine GE_skip ?_
      refine GE_seq ?_
      refine GE_block ?_
      refine GE_seq ?_
      refine GE_plain (.st 0 (.st 1 (.ld 2 [] (.ld 3 [] .nil)))) rfl ?_
      refine GT_st rfl rfl rfl rfl (V_index rfl rfl rfl Tryd.underlying79 sz_83 (k := k) rfl hkl (hO.isSome (k := k) (by rw [plcs_len]; exact hkl))) ?_
      refine GT_st rfl rfl rfl rfl (V_loadN (vs := [_, _, _, _, _, _, _, _, _, _]) rfl rfl ag_83 sz_83 rfl (CellsAt.ownE hO ePlc_len (by rw [plcs_len]; exact hkl) (by rw [plcs_get hkl, ePlc_plc]))) ?_
      refine GT_alloc rfl rfl rfl rfl rfl zc_83 (fun _ => GR_nil) (fun b5 => ?_)
      refine GT_store (vs := [_, _, _, _, _, _, _, _, _, _]) (l' := [_, _, _, _, _, _, _, _, _, _]) rfl rfl rfl rfl rfl rfl rfl sz_83 rfl rfl (Nat.le_of_ble_eq_true rfl) rfl (GR_nil) ?_
      refine GT_nil ?_
      refine GE_seq ?_
      refine GE_plain (.st 0 (.st 1 (.st 2 (.st 3 (.st 4 (.st 5 (.st 6 (.st 7 (.st 8 (.st 9 (.st 10 (.st 11 (.st 12 (.st 13 (.st 14 (.st 15 (.st 16 (.ld 17 [] (.st 18 (.st 19 .nil)))))))))))))))))))) rfl ?_
      first | refine GT_st rfl rfl rfl rfl (V_field rfl rfl fo_83_2) ?_ | refine GT_st rfl rfl rfl rfl (V_fieldA rfl rfl fo_83_2) ?_
      refine GT_st rfl rfl rfl rfl (V_load rfl rfl ag_3 (CellAt.item rfl)) ?_
      refine GT_st rfl rfl rfl rfl (V_load rfl rfl ag_3 (CellAt.item rfl)) ?_
      refine GT_st rfl rfl rfl rfl (V_leq rfl rfl rfl) ?_
      refine GT_st rfl rfl rfl rfl (V_move rfl rfl) ?_
      first | refine GT_splitNot (d := 19) rfl (fun h2 => ?_) (fun h2 => ?_) | refine GT_split (d := 19) rfl (fun h2 => ?_) (fun h2 => ?_) | refine GT_splitNotB (d := 19) rfl (fun h2 => ?_) (fun h2 => ?_) | refine GT_splitB (d := 19) rfl (fun h2 => ?_) (fun h2 => ?_)
      · skip
        refine GT_st_g rfl rfl rfl rfl rfl rfl rfl (V_load rfl rfl ag_3 (CellAt.item rfl)) ?_
        first | refine GT_st_g rfl rfl rfl rfl rfl rfl rfl (V_field rfl rfl fo_83_3) ?_ | refine GT_st_g rfl rfl rfl rfl rfl rfl rfl (V_fieldA rfl rfl fo_83_3) ?_
        refine GT_st_g rfl rfl rfl rfl rfl rfl rfl (V_load rfl rfl ag_3 (CellAt.item rfl)) ?_
        refine GT_st_g rfl rfl rfl rfl rfl rfl rfl (V_lss rfl rfl rfl) ?_
        refine GT_st rfl rfl rfl rfl (V_pick_t rfl rfl rfl) ?_
        refine GT_st rfl rfl rfl rfl (V_move rfl rfl) ?_
        first | refine GT_splitNot (d := 25) rfl (fun h3 => ?_) (fun h3 => ?_) | refine GT_split (d := 25) rfl (fun h3 => ?_) (fun h3 => ?_) | refine GT_splitNotB (d := 25) rfl (fun h3 => ?_) (fun h3 => ?_) | refine GT_splitB (d := 25) rfl (fun h3 => ?_) (fun h3 => ?_)
        · have hcond : bgn p k ≤ t ∧ t < en p k := ⟨by omega, by omega⟩
          refine GT_st_g rfl rfl rfl rfl rfl rfl rfl (V_move rfl rfl) ?_
          refine GT_st_g rfl rfl rfl rfl rfl rfl rfl (V_loadN (vs := [_, _, _, _, _, _, _, _, _, _]) rfl rfl ag_83 sz_83 rfl (CellsAt.item rfl)) ?_
          refine GT_st_g rfl rfl rfl rfl rfl rfl rfl (V_load rfl rfl ag_3 (CellAt.item rfl)) ?_
          first | refine GT_st_g rfl rfl rfl rfl rfl rfl rfl (V_field rfl rfl fo_83_2) ?_ | refine GT_st_g rfl rfl rfl rfl rfl rfl rfl (V_fieldA rfl rfl fo_83_2) ?_
          refine GT_st_g rfl rfl rfl rfl rfl rfl rfl (V_load rfl rfl ag_3 (CellAt.item rfl)) ?_
          refine GT_st_g rfl rfl rfl rfl rfl rfl rfl (V_sub rfl rfl rfl (wrap_i64 (by omega))) ?_
          refine GT_yield_g rfl rfl rfl rfl rfl rfl rfl rfl rfl rfl (YieldTo.chunk (hY _ k _ hkl hcond (sndI_yes hcond).symm hQ1 _)) (fun _ _ _ => GR_nil) (fun v H' hR => ?_)
          obtain ⟨J3, rfl, hQ3, rfl⟩ := hR
          first | refine GT_st_g rfl rfl rfl rfl rfl rfl rfl (V_not rfl rfl) ?_ | refine GT_st_g rfl rfl rfl rfl rfl rfl rfl (V_notB rfl rfl) ?_
          refine GT_st rfl rfl rfl rfl (V_pick_t rfl rfl rfl) ?_
          refine GT_nil ?_
          refine GE_cond_f rfl ?_
          refine GE_skip ?_
          refine GE_inBlock ?_
          refine GE_slots (L' := [(0, _), (2, _), (9, _), (10, _), (11, _), (20, _), (21, _), (22, _), (23, _), (26, _), (27, _), (28, _), (29, _), (30, _), (31, _), (32, _), (33, _)]) ⟨rfl, rfl, rfl, rfl, rfl, rfl, rfl, rfl, rfl, rfl, rfl, rfl, rfl, rfl, rfl, rfl, rfl, trivial⟩ ?_
          refine GE_plain (.st 0 (.ld 1 [] .nil)) rfl ?_
          refine GT_st rfl rfl rfl rfl (V_add rfl rfl rfl (wrap_i64 (by omega))) ?_
          refine GT_ldv rfl rfl rfl rfl rfl (V_move rfl rfl) (GR_nil) ?_
          refine GT_nil ?_
          first
            | exact GE_to (ih (k + 1, J3) ⟨by dsimp only; omega, by rw [sndI_yes hcond]; exact hQ3⟩ (by dsimp only; omega)) ⟨rfl, rfl, rfl, rfl, rfl, trivial⟩ (HS.chunk (HS.cons rfl (HS.cons rfl (HS.cons rfl HS.last))))
            | exact GE_to (ih (k + 1, J1) ⟨by dsimp only; omega, by rw [sndI_no (by omega)]; exact hQ1⟩ (by dsimp only; omega)) ⟨rfl, rfl, rfl, rfl, rfl, trivial⟩ (HS.chunk (HS.cons rfl (HS.cons rfl (HS.cons rfl HS.last))))
        · skip
          refine GT_skip rfl rfl rfl rfl rfl (by decide) rfl rfl ?_
          refine GT_skip rfl rfl rfl rfl rfl (by decide) rfl rfl ?_
          refine GT_skip rfl rfl rfl rfl rfl (by decide) rfl rfl ?_
          refine GT_skip rfl rfl rfl rfl rfl (by decide) rfl rfl ?_
          refine GT_skip rfl rfl rfl rfl rfl (by decide) rfl rfl ?_
          refine GT_skip rfl rfl rfl rfl rfl (by decide) rfl rfl ?_
          refine GT_skip_ld rfl rfl rfl rfl rfl (by decide) rfl rfl rfl (GR_nil) ?_
          refine GT_skip rfl rfl rfl rfl rfl (by decide) rfl rfl ?_
          refine GT_st rfl rfl rfl rfl (V_pick_f rfl rfl rfl) ?_
          refine GT_nil ?_
          refine GE_cond_f rfl ?_
          refine GE_skip ?_
          refine GE_inBlock ?_
          refine GE_slots (L' := [(0, _), (2, _), (9, _), (10, _), (11, _), (20, _), (21, _), (22, _), (23, _), (26, _), (27, _), (28, _), (29, _), (30, _), (31, _), (32, _), (33, _)]) ⟨rfl, rfl, rfl, rfl, rfl, rfl, rfl, rfl, rfl, rfl, rfl, rfl, rfl, rfl, rfl, rfl, rfl, trivial⟩ ?_
          refine GE_plain (.st 0 (.ld 1 [] .nil)) rfl ?_
          refine GT_st rfl rfl rfl rfl (V_add rfl rfl rfl (wrap_i64 (by omega))) ?_
          refine GT_ldv rfl rfl rfl rfl rfl (V_move rfl rfl) (GR_nil) ?_
          refine GT_nil ?_
          first
            | exact GE_to (ih (k + 1, J3) ⟨by dsimp only; omega, by rw [sndI_yes hcond]; exact hQ3⟩ (by dsimp only; omega)) ⟨rfl, rfl, rfl, rfl, rfl, trivial⟩ (HS.chunk (HS.cons rfl (HS.cons rfl (HS.cons rfl HS.last))))
            | exact GE_to (ih (k + 1, J1) ⟨by dsimp only; omega, by rw [sndI_no (by omega)]; exact hQ1⟩ (by dsimp only; omega)) ⟨rfl, rfl, rfl, rfl, rfl, trivial⟩ (HS.chunk (HS.cons rfl (HS.cons rfl (HS.cons rfl HS.last))))
      · skip
        refine GT_skip rfl rfl rfl rfl rfl (by decide) rfl rfl ?_
        refine GT_skip rfl rfl rfl rfl rfl (by decide) rfl rfl ?_
        refine GT_skip rfl rfl rfl rfl rfl (by decide) rfl rfl ?_
        refine GT_skip rfl rfl rfl rfl rfl (by decide) rfl rfl ?_
        refine GT_st rfl rfl rfl rfl (V_pick_f rfl rfl rfl) ?_
        refine GT_st rfl rfl rfl rfl (V_move rfl rfl) ?_
        refine GT_skip rfl rfl rfl rfl rfl (by decide) rfl rfl ?_
        refine GT_skip rfl rfl rfl rfl rfl (by decide) rfl rfl ?_
        refine GT_skip rfl rfl rfl rfl rfl (by decide) rfl rfl ?_
        refine GT_skip rfl rfl rfl rfl rfl (by decide) rfl rfl ?_
        refine GT_skip rfl rfl rfl rfl rfl (by decide) rfl rfl ?_
        refine GT_skip rfl rfl rfl rfl rfl (by decide) rfl rfl ?_
        refine GT_skip_ld rfl rfl rfl rfl rfl (by decide) rfl rfl rfl (GR_nil) ?_
        refine GT_skip rfl rfl rfl rfl rfl (by decide) rfl rfl ?_
        refine GT_st rfl rfl rfl rfl (V_pick_f rfl rfl rfl) ?_
        refine GT_nil ?_
        refine GE_cond_f rfl ?_
        refine GE_skip ?_
        refine GE_inBlock ?_
        refine GE_slots (L' := [(0, _), (2, _), (9, _), (10, _), (11, _), (20, _), (21, _), (22, _), (23, _), (26, _), (27, _), (28, _), (29, _), (30, _), (31, _), (32, _), (33, _)]) ⟨rfl, rfl, rfl, rfl, rfl, rfl, rfl, rfl, rfl, rfl, rfl, rfl, rfl, rfl, rfl, rfl, rfl, trivial⟩ ?_
        refine GE_plain (.st 0 (.ld 1 [] .nil)) rfl ?_
        refine GT_st rfl rfl rfl rfl (V_add rfl rfl rfl (wrap_i64 (by omega))) ?_
        refine GT_ldv rfl rfl rfl rfl rfl (V_move rfl rfl) (GR_nil) ?_
        refine GT_nil ?_
        first
          | exact GE_to (ih (k + 1, J3) ⟨by dsimp only; omega, by rw [sndI_yes hcond]; exact hQ3⟩ (by dsimp only; omega)) ⟨rfl, rfl, rfl, rfl, rfl, trivial⟩ (HS.chunk (HS.cons rfl (HS.cons rfl (HS.cons rfl HS.last))))
          | exact GE_to (ih (k + 1, J1) ⟨by dsimp only; omega, by rw [sndI_no (by omega)]; exact hQ1⟩ (by dsimp only; omega)) ⟨rfl, rfl, rfl, rfl, rfl, trivial⟩ (HS.chunk (HS.cons rfl (HS.cons rfl (HS.cons rfl HS.last))))
    · obtain rfl : k = p.length := (by omega)
      refine GE_exit rfl ?_
      refine GE_end Tryd.func73 rfl (fun w hw => ⟨J1, hQ1, hw⟩)
      skip
  · exact ⟨Nat.zero_le _, hQ⟩
theorem so_nil {e : Int} (hz : soE l p t = e) (he : e ≠ 0) {w0 w : World} {M : Nat → Prop} {H : Items} (hw : SH w0 M H w) : ∃ y : OI, Own 3 70 eSrc (soL l p t) (.slice y.1 (soL l p t).length y.2.1) y.2.2 ∧ Value.tuple #[.slice none 0 0, I e] = .tuple #[.slice y.1 (soL l p t).length y.2.1, I (soE l p t)] ∧ SH w0 M y.2.2 w := by
  have e1 : soL l p t = [] := if_neg (by omega)
  refine ⟨(none, 0, []), ?_, ?_, hw.nil⟩
  · rw [e1]; exact Own.nil
  · rw [e1, hz]; rfl
def SoCon (f : Nat) (l : List Tk) (p : List Prt) (t : Int) (A A2 : Option Addr) (c c2 : Nat) (w : World) : Prop := Con Tryd.prog f [.slice A l.length c, .slice A2 p.length c2, I t] w (fun y : OI => Own 3 70 eSrc (soL l p t) (.slice y.1 (soL l p t).length y.2.1) y.2.2)
    (fun y => .tuple #[.slice y.1 (soL l p t).length y.2.1, I (soE l p t)]) (fun y => y.2.2)
set_option maxRecDepth 10000 in
set_option maxHeartbeats 1000000 in
theorem C_Sources (h : Tks w A l) (hp : RdL w 7 ePrt A2 p) : SoCon 39 l p t A A2 c c2 w := by
  by_cases hg : gErr l p = 0
  · have hP := gErr_zero.1 hg
    have hG := gd_of hP
    have hmo := hP.most
    have hfi := hP.fin
    refine Ret_of (vs := [_, _, _]) hm none' Tryd.func39 rfl Tryd.ntmps39 rfl ?_
    dsimp only [slotsOf]
    refine GE_seq ?_
    refine GE_plain (.st 0 (.st 1 .nil)) rfl ?_
    refine GT_st rfl rfl rfl rfl (V_assign rfl rfl) ?_
    refine GT_st rfl rfl rfl rfl (V_assign rfl rfl) ?_
    refine GT_nil ?_
    refine GE_seq ?_
    refine GE_plain (.st 0 (.st 1 (.ld 2 [] (.st 3 (.st 4 (.st 5 (.st 6 (.st 7 .nil)))))))) rfl ?_
    refine GT_st rfl rfl rfl rfl (V_move rfl rfl) ?_
    refine GT_st rfl rfl rfl rfl (V_move rfl rfl) ?_
    refine GT_call rfl rfl rfl rfl rfl rfl rfl rfl rn_46 (fun w hw => C_new_ok (h.sh hw) (hp.sh hw) hg) (fun _ _ => GR_nil) (fun y hy => ?_)
    refine GT_st rfl rfl rfl rfl (V_move rfl rfl) ?_
    refine GT_st rfl rfl rfl rfl (V_extract rfl rfl rfl) ?_
    refine GT_st rfl rfl rfl rfl (V_extract rfl rfl rfl) ?_
    refine GT_st rfl rfl rfl rfl (V_assign rfl rfl) ?_
    refine GT_st rfl rfl rfl rfl (V_assign rfl rfl) ?_
    refine GT_nil ?_
    refine GE_seq ?_
    refine GE_seq ?_
    refine GE_slots (L' := [(2, _), (6, _), (7, _), (8, _), (9, _)]) ⟨rfl, rfl, rfl, rfl, rfl, trivial⟩ ?_
    refine GE_plain (.st 0 (.st 1 .nil)) rfl ?_
    refine GT_st rfl rfl rfl rfl (V_move rfl rfl) ?_
    refine GT_st rfl rfl rfl rfl (V_isF (V_neq rfl rfl rfl) (by decide)) ?_
    refine GT_nil ?_
    refine GE_cond_f rfl ?_
    refine GE_skip ?_
    refine GE_seq ?_
    refine GE_seq ?_
    refine GE_plain (.st 0 (.st 1 (.st 2 (.st 3 (.st 4 (.st 5 (.st 6 (.st 7 (.st 8 (.st 9 .nil)))))))))) rfl ?_
    refine GT_st rfl rfl rfl rfl (V_move rfl rfl) ?_
    refine GT_st rfl rfl rfl rfl (V_lss rfl rfl rfl) ?_
    refine GT_st rfl rfl rfl rfl (V_move rfl rfl) ?_
    first | refine GT_splitNot (d := 24) rfl (fun q1 => ?_) (fun q1 => ?_) | refine GT_split (d := 24) rfl (fun q1 => ?_) (fun q1 => ?_) | refine GT_splitNotB (d := 24) rfl (fun q1 => ?_) (fun q1 => ?_) | refine GT_splitB (d := 24) rfl (fun q1 => ?_) (fun q1 => ?_)
    · skip
      refine GT_skip rfl rfl rfl rfl rfl (by decide) rfl rfl ?_
      refine GT_skip rfl rfl rfl rfl rfl (by decide) rfl rfl ?_
      refine GT_skip rfl rfl rfl rfl rfl (by decide) rfl rfl ?_
      refine GT_skip rfl rfl rfl rfl rfl (by decide) rfl rfl ?_
      refine GT_skip rfl rfl rfl rfl rfl (by decide) rfl rfl ?_
      refine GT_skip rfl rfl rfl rfl rfl (by decide) rfl rfl ?_
      refine GT_st rfl rfl rfl rfl (V_pick_t rfl rfl rfl) ?_
      refine GT_nil ?_
      refine GE_cond_t rfl ?_
      refine GE_seq ?_
      refine GE_slots (L' := []) trivial ?_
      refine GE_plain (.st 0 (.st 1 .nil)) rfl ?_
      refine GT_st rfl rfl rfl rfl (V_assign rfl rfl) ?_
      refine GT_st rfl rfl rfl rfl (V_assign rfl rfl) ?_
      refine GT_nil ?_
      refine GE_ret Tryd.func39 ⟨_, _, rfl, rfl, rfl⟩ (fun w hw => ?_)
      exact so_nil (by rw [soE, if_pos hg, if_pos (by omega)]) (by decide) hw
    · skip
      refine GT_st_g rfl rfl rfl rfl rfl rfl rfl (V_move rfl rfl) ?_
      refine GT_st_g rfl rfl rfl rfl rfl rfl rfl (V_move rfl rfl) ?_
      first | refine GT_st_g rfl rfl rfl rfl rfl rfl rfl (V_nilCheck rfl rfl) ?_ | refine GT_st_g rfl rfl rfl rfl rfl rfl rfl (V_nilCheck_func rfl rfl) ?_ | refine GT_st_g rfl rfl rfl rfl rfl rfl rfl (V_nilCheck_yield rfl rfl) ?_
      first | refine GT_st_g rfl rfl rfl rfl rfl rfl rfl (V_field rfl rfl fo_81_2) ?_ | refine GT_st_g rfl rfl rfl rfl rfl rfl rfl (V_fieldA rfl rfl fo_81_2) ?_
      refine GT_st_g rfl rfl rfl rfl rfl rfl rfl (V_load rfl rfl ag_3 (CellAt.item rfl)) ?_
      refine GT_st_g rfl rfl rfl rfl rfl rfl rfl (V_geq rfl rfl rfl) ?_
      refine GT_st rfl rfl rfl rfl (V_pick_f rfl rfl rfl) ?_
      refine GT_nil ?_
      first | refine GE_condNot rfl (fun q2 => ?_) (fun q2 => ?_) | refine GE_cond rfl (fun q2 => ?_) (fun q2 => ?_) | refine GE_condNotB rfl (fun q2 => ?_) (fun q2 => ?_) | refine GE_condB rfl (fun q2 => ?_) (fun q2 => ?_)
      · skip
        refine GE_seq ?_
        refine GE_slots (L' := []) trivial ?_
        refine GE_plain (.st 0 (.st 1 .nil)) rfl ?_
        refine GT_st rfl rfl rfl rfl (V_assign rfl rfl) ?_
        refine GT_st rfl rfl rfl rfl (V_assign rfl rfl) ?_
        refine GT_nil ?_
        refine GE_ret Tryd.func39 ⟨_, _, rfl, rfl, rfl⟩ (fun w hw => ?_)
        exact so_nil (by rw [soE, if_pos hg, if_pos (by omega)]) (by decide) hw
      · have e0 : soE l p t = 0 := (by rw [soE, if_pos hg, if_neg (by omega)]); have eL : soL l p t = srcs p t p.length := if_pos e0; have hsl := srcs_len p t p.length
        refine GE_skip ?_
        refine GE_seq ?_
        refine GE_slots (L' := [(2, _), (6, _), (7, _), (8, _)]) ⟨rfl, rfl, rfl, rfl, trivial⟩ ?_
        refine GE_plain (.ld 0 [] .nil) rfl ?_
        refine GT_alloc rfl rfl rfl rfl rfl zc_66 (fun _ => GR_nil) (fun b10 => ?_)
        refine GT_nil ?_
        refine GE_seq ?_
        refine GE_seq ?_
        refine GE_plain (.st 0 (.st 1 (.ld 2 [] .nil))) rfl ?_
        refine GT_st rfl rfl rfl rfl (V_move rfl rfl) ?_
        refine GT_st rfl rfl rfl rfl (V_move rfl rfl) ?_
        refine GT_call rfl rfl rfl rfl rfl rfl rfl rfl rn_62 (fun w hw => C_at) (fun _ _ => GR_nil) (fun bb _ => ?_)
        refine GT_nil ?_
        refine GE_block ?_
        refine GE_range rfl rfl rn_73 (fun T l5 q r0 hr0 hT hlk w hw => ?_)
        refine (C_at1 (l := l) (p := p) (t := t) (c := c) (A := A) (g := y.1) (b1 := bb.1) (b2 := bb.2) (A' := y.2.1) (c' := y.2.2.1) (J := (l5, .loop r0) :: (b10, blk [.slice none 0 0] 66) :: []) (G := [(q, .deferred (some []))])
          (Q := fun pre J => ∃ A5 c5 I5, Own 3 70 eSrc (pre.map (src p t)) (.slice A5 pre.length c5) I5 ∧ J = (l5, .loop r0) :: (b10, blk [.slice A5 pre.length c5] 66) :: I5)
          hy hG ⟨by omega, by omega⟩ ?_ ⟨none, 0, [], Own.nil, rfl⟩ (hw.hs ((show HS _ _ ((l5, .loop r0) :: (b10, _) :: ((bb.1, _) :: (bb.2, _) :: (y.1, _) :: (y.2.2.2 ++ [(q, .deferred (some []))]))) from HS.cons rfl (HS.cons rfl (HS.cons rfl (HS.cons rfl (HS.cons rfl (HS.chunk (HS.cons rfl HS.nil))))))).eq (by simp)))).mono (fun v w' ⟨J', ⟨A5, c5, I5, hO5, hJ'⟩, hw'⟩ => ?_)
        · intro pre i J hil hcond hpre ⟨A5, c5, I5, hO5, hJ⟩ G; subst hJ; subst hr0
          have hpl : pre.length + 1 ≤ i + 1 := (by have := congrArg List.length hpre; have h2 := sndI_len p t (i + 1); rw [List.length_append, List.length_singleton] at this; omega)
          have hbb := gd_bgn hG hil
          have hpr := gd_prt hG hil
          have hfr9 := (hG.each i hil).frto
          refine yield_of inferInstance rfl rfl hT hlk rfl rfl hm ?_
          refine GE_slots (L' := [(10, ptr b10 0), (35, .agg #[I (pt p i).tk, I (pt p i).fr, I (pt p i).to, I (pt p i).gap, I (pt p i).inn, I (pt p i).out, I (pt p i).lev, I i, I (bgn p i), I (en p i)]), (36, I (t - bgn p i))]) ⟨rfl, rfl, rfl, trivial⟩ ?_
          refine GE_seq ?_
          refine GE_plain (.ld 0 [] (.ld 1 [] .nil)) rfl ?_
          refine GT_alloc rfl rfl rfl rfl rfl zc_83 (fun _ => GR_nil) (fun b11 => ?_)
          refine GT_store (vs := [_, _, _, _, _, _, _, _, _, _]) (l' := [_, _, _, _, _, _, _, _, _, _]) rfl rfl rfl rfl rfl rfl rfl sz_83 rfl rfl (Nat.le_of_ble_eq_true rfl) rfl (GR_nil) ?_
          refine GT_nil ?_
          refine GE_plain (.st 0 .nil) rfl ?_
          refine GT_st rfl rfl rfl rfl (V_assign rfl rfl) ?_
          refine GT_nil ?_
          refine GE_beginRound rfl ?_
          refine GE_block ?_
          refine GE_plain (.st 0 (.st 1 (.st 2 (.st 3 (.st 4 (.st 5 (.st 6 (.st 7 (.st 8 (.st 9 (.st 10 (.st 11 (.ld 12 [] (.ld 13 [] (.ld 14 [] .nil))))))))))))))) rfl ?_
          refine GT_st rfl rfl rfl rfl (V_load rfl rfl ag_66 (CellAt.item rfl)) ?_
          first | refine GT_st rfl rfl rfl rfl (V_field rfl rfl fo_83_1) ?_ | refine GT_st rfl rfl rfl rfl (V_fieldA rfl rfl fo_83_1) ?_
          refine GT_st rfl rfl rfl rfl (V_load rfl rfl ag_3 (CellAt.item rfl)) ?_
          first | refine GT_st rfl rfl rfl rfl (V_field rfl rfl fo_83_0) ?_ | refine GT_st rfl rfl rfl rfl (V_fieldA rfl rfl fo_83_0) ?_
          first | refine GT_st rfl rfl rfl rfl (V_field rfl rfl fo_30_0) ?_ | refine GT_st rfl rfl rfl rfl (V_fieldA rfl rfl fo_30_0) ?_
          refine GT_st rfl rfl rfl rfl (V_load rfl rfl ag_3 (CellAt.item rfl)) ?_
          first | refine GT_st rfl rfl rfl rfl (V_field rfl rfl fo_83_0) ?_ | refine GT_st rfl rfl rfl rfl (V_fieldA rfl rfl fo_83_0) ?_
          first | refine GT_st rfl rfl rfl rfl (V_field rfl rfl fo_30_1) ?_ | refine GT_st rfl rfl rfl rfl (V_fieldA rfl rfl fo_30_1) ?_
          refine GT_st rfl rfl rfl rfl (V_load rfl rfl ag_3 (CellAt.item rfl)) ?_
          refine GT_st rfl rfl rfl rfl (V_move rfl rfl) ?_
          refine GT_st rfl rfl rfl rfl (V_add rfl rfl rfl ((wrap_i64 (by omega)).trans (show _ = (pt p i).fr + (t - bgn p i) from rfl))) ?_
          refine GT_st rfl rfl rfl rfl (V_build (vs := [_, _, _]) rfl rfl zc_70 pl_70 sa_70 rfl) ?_
          refine GT_buildSlice (z := [_, _, _]) rfl rfl rfl rfl rfl Tryd.underlying66 zc_70 sz_70 (by decide) rfl rfl (fun _ => GR_nil) (fun b49 => ?_)
          refine GT_append (enc := eSrc) (m := [src p t i]) rfl rfl rfl rfl rfl rfl rfl hO5 (fun w m => RdL.own' m eSrc_len) Tryd.underlying66 zc_70 sz_70 ⟨rfl, by decide⟩ by_70 ⟨by rw [List.length_map]; simp only [List.length_singleton]; omega, by rw [List.length_map]; simp only [List.length_singleton]; omega⟩ eSrc_len eSrc_one (fun _ _ _ _ => GR_nil) (fun A6 c6 I6 hO6 => ?_)
          rw [show pre.map (src p t) ++ [src p t i] = (pre ++ [i]).map (src p t) by rw [List.map_append]; rfl, List.length_map] at hO6 ⊢
          refine GT_store (vs := [_]) (l' := [_]) rfl rfl rfl rfl rfl rfl rfl sz_66 rfl rfl (Nat.le_of_ble_eq_true rfl) rfl (GR_nil) ?_
          refine GT_nil ?_
          refine GE_inBlock ?_
          refine GE_leave none rfl (fun w hw => ⟨_, ⟨_, rfl, ⟨A6, c6, I6, hO6, rfl⟩, rfl⟩, ?_⟩)
          exact hw.hs (HS.cons rfl (HS.cons rfl (HS.chunk HS.last)))
        · subst hJ'; subst hr0
          refine ⟨_, (b10, blk [.slice A5 (sndI p t p.length).length c5] 66) :: I5, ?_, hw'.hs (HS.cons rfl (HS.cons rfl (HS.cons rfl HS.last))), ?_⟩
          · intro h; cases h
          refine GE_D (D' := dq [q]) ?_ rfl
          refine GE_inBlock ?_
          refine GE_seq ?_
          refine GE_slots (L' := [(10, _)]) ⟨rfl, trivial⟩ ?_
          refine GE_plain (.st 0 (.st 1 (.st 2 .nil))) rfl ?_
          refine GT_st rfl rfl rfl rfl (V_load rfl rfl ag_66 (CellAt.item rfl)) ?_
          refine GT_st rfl rfl rfl rfl (V_assign rfl rfl) ?_
          refine GT_st rfl rfl rfl rfl (V_assign rfl rfl) ?_
          refine GT_nil ?_
          refine GE_retq Tryd.func39 ⟨_, _, rfl, rfl, rfl⟩ (fun w hw => ?_)
          have el : (soL l p t).length = (sndI p t p.length).length := (by rw [eL, srcs, List.length_map])
          exact ⟨(A5, c5, I5), by rw [el, eL]; exact hO5, by rw [el, e0], SH.hs (C := cx Tryd.prog hm 0 0 _ none' fun _ _ => True) hw HS.last⟩
  · have e : soE l p t = gErr l p := if_neg hg
    refine Ret_of (vs := [_, _, _]) hm none' Tryd.func39 rfl Tryd.ntmps39 rfl ?_
    dsimp only [slotsOf]
    refine GE_seq ?_
    refine GE_plain (.st 0 (.st 1 .nil)) rfl ?_
    refine GT_st rfl rfl rfl rfl (V_assign rfl rfl) ?_
    refine GT_st rfl rfl rfl rfl (V_assign rfl rfl) ?_
    refine GT_nil ?_
    refine GE_seq ?_
    refine GE_plain (.st 0 (.st 1 (.ld 2 [] (.st 3 (.st 4 (.st 5 (.st 6 (.st 7 .nil)))))))) rfl ?_
    refine GT_st rfl rfl rfl rfl (V_move rfl rfl) ?_
    refine GT_st rfl rfl rfl rfl (V_move rfl rfl) ?_
    refine GT_call0 rfl rfl rfl rfl rfl rfl rfl rfl rn_46 (fun w hw => C_new_bad (h.sh hw) (hp.sh hw) hg) (GR_nil) ?_
    refine GT_st rfl rfl rfl rfl (V_move rfl rfl) ?_
    refine GT_st rfl rfl rfl rfl (V_extract rfl rfl rfl) ?_
    refine GT_st rfl rfl rfl rfl (V_extract rfl rfl rfl) ?_
    refine GT_st rfl rfl rfl rfl (V_assign rfl rfl) ?_
    refine GT_st rfl rfl rfl rfl (V_assign rfl rfl) ?_
    refine GT_nil ?_
    refine GE_seq ?_
    refine GE_seq ?_
    refine GE_slots (L' := [(2, _), (6, _), (7, _), (8, _), (9, _)]) ⟨rfl, rfl, rfl, rfl, rfl, trivial⟩ ?_
    refine GE_plain (.st 0 (.st 1 .nil)) rfl ?_
    refine GT_st rfl rfl rfl rfl (V_move rfl rfl) ?_
    refine GT_st rfl rfl rfl rfl (V_isT (V_neq rfl rfl rfl) hg) ?_
    refine GT_nil ?_
    refine GE_cond_t rfl ?_
    refine GE_seq ?_
    refine GE_slots (L' := [(9, _)]) ⟨rfl, trivial⟩ ?_
    refine GE_plain (.st 0 (.st 1 (.st 2 .nil))) rfl ?_
    refine GT_st rfl rfl rfl rfl (V_move rfl rfl) ?_
    refine GT_st rfl rfl rfl rfl (V_assign rfl rfl) ?_
    refine GT_st rfl rfl rfl rfl (V_assign rfl rfl) ?_
    refine GT_nil ?_
    refine GE_ret Tryd.func39 ⟨_, _, rfl, rfl, rfl⟩ (fun w hw => ?_)
    exact so_nil e hg hw
end
end Go.Proofs.YtnklkobhjdkblaaDoor

namespace Go.Proofs.YtnklkobhjdkblaaDoor
open Go.Sx Go.Proofs Go.RowKit

section
variable {w : World} {A A2 A' : Option Addr} {c c2 c' g bq b3 : Nat} {l : List Tk} {p : List Prt}
theorem src_get {j : Nat} {t : Int} (hj : j < (srcs p t p.length).length) : ∃ i, i < p.length ∧ (bgn p i ≤ t ∧ t < en p i) ∧ (srcs p t p.length).getD j default = src p t i ∧ (sndI p t p.length).getD j default = i := by
  have hl : j < (sndI p t p.length).length := by unfold srcs at hj; rwa [List.length_map] at hj
  have hm := sndI_mem (getD_mem hl)
  refine ⟨_, hm.1, hm.2, ?_, rfl⟩
  unfold srcs
  simp [List.getD, hl]
end
end Go.Proofs.YtnklkobhjdkblaaDoor

namespace Go.Proofs.YtnklkobhjdkblaaDoor
open Go.Sx Go.Proofs Go.RowKit

theorem rErr_two {l : List Tk} {p : List Prt} (h : gErr l p = 0) : rErr l p = 0 ∨ rErr l p = 4 := by
  rw [rErr, if_pos h]; split
  · exact .inl rfl
  · exact .inr rfl
section
variable {w : World} {A A2 A3 : Option Addr} {c c2 c3 : Nat} {l : List Tk} {p q : List Prt} {t : Int}
end
end Go.Proofs.YtnklkobhjdkblaaDoor

namespace Go.Proofs.YtnklkobhjdkblaaDoor
open Go.Sx Go.Proofs Go.RowKit

section
variable {p : List Prt} {f : Prt → Prt}
end
section
variable {w : World} {A A2 : Option Addr} {c c2 : Nat} {l : List Tk} {p : List Prt}
end
end Go.Proofs.YtnklkobhjdkblaaDoor

namespace Go.Proofs.YtnklkobhjdkblaaDoor
open Go.Sx Go.Proofs Go.RowKit

section
variable {w : World} {A A2 : Option Addr} {c c2 : Nat} {l : List Tk} {p : List Prt}
theorem C_SoundZ {i : Nat} {k : Int} (h : Tks w A l) (hp : RdL w 7 ePrt A2 p) (hg : ProgOk l p) (hi : i < p.length) (h0 : 0 ≤ k) (hk : k < lng (pt p i)) : Con0 Tryd.prog 23 [.slice A l.length c, .slice A2 p.length c2, I i, I k] w (.tuple #[.agg #[I (vR l p i k).l, I (vR l p i k).r], I 0]) := by
  have h1 := C_Sound (c := c) (c2 := c2) (i := i) (k := k) h hp
  have e : sndE l p i k = 0 := by rw [sndE, if_pos (gErr_zero.2 hg), if_pos]; rw [Int.toNat_natCast]; omega
  rw [sndV, if_pos e, e, Int.toNat_natCast] at h1
  exact h1
set_option maxRecDepth 20000 in
set_option maxHeartbeats 4000000 in
theorem L_TakeSounds (h : Tks w A l) (_hl : l.length ≤ c ∧ c ≤ maxLen) (hp : RdL w 7 ePrt A2 p) (_hx : p.length ≤ c2 ∧ c2 ≤ maxLen ∧ ∀ x ∈ p, x.wf) : Con0 Tryd.prog 14 [.slice A l.length c, .slice A2 p.length c2] w (.bool true) := by
  refine Ret_of (vs := [_, _]) hm none' Tryd.func14 rfl Tryd.ntmps14 rfl ?_
  dsimp only [slotsOf]
  refine GE_seq ?_
  refine GE_plain (.st 0 .nil) rfl ?_
  refine GT_st rfl rfl rfl rfl (V_assign rfl rfl) ?_
  refine GT_nil ?_
  refine GE_seq ?_
  refine GE_seq ?_
  refine GE_plain (.st 0 (.st 1 (.ld 2 [] (.st 3 (.st 4 (.st 5 (.ld 6 [] (.st 7 (.st 8 .nil))))))))) rfl ?_
  refine GT_st rfl rfl rfl rfl (V_move rfl rfl) ?_
  refine GT_st rfl rfl rfl rfl (V_move rfl rfl) ?_
  refine GT_call0 rfl rfl rfl rfl rfl rfl rfl rfl rn_20 (fun w hw => C_great (h.sh hw)) (GR_nil) ?_
  refine GT_st rfl rfl rfl rfl (V_move rfl rfl) ?_
  first | refine GT_splitNot (d := 25) rfl (fun q1 => ?_) (fun q1 => ?_) | refine GT_split (d := 25) rfl (fun q1 => ?_) (fun q1 => ?_) | refine GT_splitNotB (d := 25) rfl (fun q1 => ?_) (fun q1 => ?_) | refine GT_splitB (d := 25) rfl (fun q1 => ?_) (fun q1 => ?_)
  · skip
    refine GT_skip rfl rfl rfl rfl rfl (by decide) rfl rfl ?_
    refine GT_skip rfl rfl rfl rfl rfl (by decide) rfl rfl ?_
    refine GT_skip_ld rfl rfl rfl rfl rfl (by decide) rfl rfl rfl (GR_nil) ?_
    refine GT_skip rfl rfl rfl rfl rfl (by decide) rfl rfl ?_
    refine GT_st rfl rfl rfl rfl (V_pick_t rfl rfl rfl) ?_
    refine GT_nil ?_
    refine GE_cond_t rfl ?_
    refine GE_seq ?_
    refine GE_slots (L' := []) trivial ?_
    refine GE_plain (.ld 0 [] (.st 1 .nil)) rfl ?_
    refine GT_call0 rfl rfl rfl rfl rfl rfl rfl rfl rn_16 (fun w hw => C_Works) (GR_nil) ?_
    refine GT_st rfl rfl rfl rfl (V_assign rfl rfl) ?_
    refine GT_nil ?_
    refine GE_ret Tryd.func14 rfl (fun w hw => ⟨?_, hw.nil⟩)
    rfl
  · skip
    refine GT_st_g rfl rfl rfl rfl rfl rfl rfl (V_move rfl rfl) ?_
    refine GT_st_g rfl rfl rfl rfl rfl rfl rfl (V_move rfl rfl) ?_
    refine GT_call0_g rfl rfl rfl rfl rfl rfl rfl rfl rfl rfl rfl rn_21 (fun w hw => C_rCheckProgramme (h.sh hw) (hp.sh hw)) (GR_nil) ?_
    refine GT_st_g rfl rfl rfl rfl rfl rfl rfl (V_neq rfl rfl rfl) ?_
    refine GT_st rfl rfl rfl rfl (V_pick_f rfl rfl rfl) ?_
    refine GT_nil ?_
    first | refine GE_condNot rfl (fun q2 => ?_) (fun q2 => ?_) | refine GE_cond rfl (fun q2 => ?_) (fun q2 => ?_) | refine GE_condNotB rfl (fun q2 => ?_) (fun q2 => ?_) | refine GE_condB rfl (fun q2 => ?_) (fun q2 => ?_)
    · skip
      refine GE_seq ?_
      refine GE_slots (L' := []) trivial ?_
      refine GE_plain (.ld 0 [] (.st 1 .nil)) rfl ?_
      refine GT_call0 rfl rfl rfl rfl rfl rfl rfl rfl rn_16 (fun w hw => C_Works) (GR_nil) ?_
      refine GT_st rfl rfl rfl rfl (V_assign rfl rfl) ?_
      refine GT_nil ?_
      refine GE_ret Tryd.func14 rfl (fun w hw => ⟨?_, hw.nil⟩)
      rfl
    · have hP := gErr_zero.1 q2; have hG := gd_of hP; have hmo := hP.most; have hfi := hP.fin; have hfn := fin_nonneg hP; have hrl := rendL_len hP; have eL : stL l p = bgns p p.length := if_pos q2; have eN : stN l p = fin p := if_pos q2
      refine GE_skip ?_
      refine GE_seq ?_
      refine GE_slots (L' := [(0, _), (1, _)]) ⟨rfl, rfl, trivial⟩ ?_
      refine GE_plain (.st 0 (.st 1 (.ld 2 [] (.st 3 (.st 4 (.st 5 (.st 6 (.st 7 (.st 8 (.st 9 .nil)))))))))) rfl ?_
      refine GT_st rfl rfl rfl rfl (V_move rfl rfl) ?_
      refine GT_st rfl rfl rfl rfl (V_move rfl rfl) ?_
      refine GT_call rfl rfl rfl rfl rfl rfl rfl rfl rn_35 (fun w hw => C_Starts (h.sh hw) (hp.sh hw)) (fun _ _ => GR_nil) (fun y hy => ?_)
      rw [eL, bgns_len] at hy; rw [eL, eN, q2, bgns_len]
      refine GT_st rfl rfl rfl rfl (V_move rfl rfl) ?_
      refine GT_st rfl rfl rfl rfl (V_extract rfl rfl rfl) ?_
      refine GT_st rfl rfl rfl rfl (V_extract rfl rfl rfl) ?_
      refine GT_st rfl rfl rfl rfl (V_extract rfl rfl rfl) ?_
      refine GT_st rfl rfl rfl rfl (V_assign rfl rfl) ?_
      refine GT_st rfl rfl rfl rfl (V_assign rfl rfl) ?_
      refine GT_st rfl rfl rfl rfl (V_assign rfl rfl) ?_
      refine GT_nil ?_
      refine GE_seq ?_
      refine GE_seq ?_
      refine GE_slots (L' := [(0, _), (1, _), (5, _), (6, _), (7, _)]) ⟨rfl, rfl, rfl, rfl, rfl, trivial⟩ ?_
      refine GE_plain (.st 0 (.st 1 (.st 2 (.st 3 (.st 4 (.st 5 (.st 6 (.st 7 (.st 8 (.st 9 (.st 10 (.st 11 (.st 12 (.st 13 (.st 14 (.st 15 (.st 16 .nil))))))))))))))))) rfl ?_
      refine GT_st rfl rfl rfl rfl (V_move rfl rfl) ?_
      refine GT_st rfl rfl rfl rfl (V_isF (V_neq rfl rfl rfl) (fun q => q rfl)) ?_
      refine GT_st rfl rfl rfl rfl (V_move rfl rfl) ?_
      refine GT_st_g rfl rfl rfl rfl rfl rfl rfl (V_move rfl rfl) ?_
      refine GT_st_g rfl rfl rfl rfl rfl rfl rfl (V_len rfl Tryd.underlying62 rfl) ?_
      refine GT_st_g rfl rfl rfl rfl rfl rfl rfl (V_move rfl rfl) ?_
      refine GT_st_g rfl rfl rfl rfl rfl rfl rfl (V_len rfl Tryd.underlying31 rfl) ?_
      refine GT_st_g rfl rfl rfl rfl rfl rfl rfl (V_isF (V_neq rfl rfl rfl) (fun q => q rfl)) ?_
      refine GT_st rfl rfl rfl rfl (V_pick_f rfl rfl rfl) ?_
      refine GT_st rfl rfl rfl rfl (V_move rfl rfl) ?_
      refine GT_st_g rfl rfl rfl rfl rfl rfl rfl (V_move rfl rfl) ?_
      refine GT_st_g rfl rfl rfl rfl rfl rfl rfl (V_isF (V_lss rfl rfl rfl) (by omega)) ?_
      refine GT_st rfl rfl rfl rfl (V_pick_f rfl rfl rfl) ?_
      refine GT_st rfl rfl rfl rfl (V_move rfl rfl) ?_
      refine GT_st_g rfl rfl rfl rfl rfl rfl rfl (V_move rfl rfl) ?_
      refine GT_st_g rfl rfl rfl rfl rfl rfl rfl (V_isF (V_gtr rfl rfl rfl) (by omega)) ?_
      refine GT_st rfl rfl rfl rfl (V_pick_f rfl rfl rfl) ?_
      refine GT_nil ?_
      refine GE_cond_f rfl ?_
      refine GE_skip ?_
      refine GE_seq ?_
      refine GE_slots (L' := [(0, _), (1, _), (5, _), (6, _)]) ⟨rfl, rfl, rfl, rfl, trivial⟩ ?_
      refine GE_plain (.st 0 (.st 1 (.ld 2 [] (.st 3 (.st 4 (.st 5 (.st 6 (.st 7 .nil)))))))) rfl ?_
      refine GT_st rfl rfl rfl rfl (V_move rfl rfl) ?_
      refine GT_st rfl rfl rfl rfl (V_move rfl rfl) ?_
      refine GT_call rfl rfl rfl rfl rfl rfl rfl rfl rn_17 (fun w hw => C_Render (h.sh hw) (hp.sh hw)) (fun _ _ => GR_nil) (fun r hr => ?_)
      refine GT_st rfl rfl rfl rfl (V_move rfl rfl) ?_
      refine GT_st rfl rfl rfl rfl (V_extract rfl rfl rfl) ?_
      refine GT_st rfl rfl rfl rfl (V_extract rfl rfl rfl) ?_
      refine GT_st rfl rfl rfl rfl (V_assign rfl rfl) ?_
      refine GT_st rfl rfl rfl rfl (V_assign rfl rfl) ?_
      refine GT_nil ?_
      refine GE_cut (ι := Unit) (fun _ => [(0, .slice A l.length c), (1, .slice A2 p.length c2), (5, .slice y.1 p.length y.2.1), (6, I (fin p)), (8, .slice r.1 (rendL l p).length r.2.1), (9, I (rErr l p))]) (fun _ => r.2.2 ++ y.2.2) (fun _ => True) ?_ (fun hk => ?_)
      · intro _ _
        refine GE_seq ?_
        refine GE_plain (.st 0 (.st 1 (.ld 2 [] (.st 3 .nil)))) rfl ?_
        refine GT_st rfl rfl rfl rfl (V_move rfl rfl) ?_
        refine GT_st rfl rfl rfl rfl (V_len rfl Tryd.underlying31 rfl) ?_
        refine GT_makeSlice rfl rfl rfl rfl rfl rfl rfl Tryd.underlying62 zc_3 sz_3 by_3 (nn := p.length) ⟨rfl, rfl, rfl⟩ ⟨by omega, by omega⟩ (fun _ => GR_nil) (fun b80 => ?_)
        refine GT_st rfl rfl rfl rfl (V_assign rfl rfl) ?_
        refine GT_nil ?_
        refine GE_seq ?_
        refine GE_plain (.st 0 .nil) rfl ?_
        refine GT_st rfl rfl rfl rfl (V_assign rfl rfl) ?_
        refine GT_nil ?_
        refine GE_seq ?_
        refine GE_seq ?_
        refine GE_plain (.st 0 .nil) rfl ?_
        refine GT_st rfl rfl rfl rfl (V_assign rfl rfl) ?_
        refine GT_nil ?_
        refine GE_block ?_
        refine GE_to (GE_loop (ι := Nat × Bool × Items) (fun z => (fin p).toNat - z.1) (fun z => [(0, .slice A l.length c), (1, .slice A2 p.length c2), (5, .slice y.1 p.length y.2.1), (6, I (fin p)), (8, .slice r.1 (rendL l p).length r.2.1), (9, I (rErr l p)), (10, .slice (some ⟨b80, 0, none⟩) p.length p.length), (11, .bool z.2.1), (12, I z.1)]) (fun z => z.2.2 ++ (r.2.2 ++ y.2.2)) (fun z => z.1 ≤ (fin p).toNat ∧ Own 1 3 eI (manyL p z.1 []) (.slice (some ⟨b80, 0, none⟩) p.length p.length) z.2.2 ∧ (z.2.1 = true ↔ ∃ s : Nat, s < z.1 ∧ (mixN p (vR l p) p.length s).ok = false)) ?_ (0, false, [(b80, blk ((List.replicate p.length [I 0]).flatten) 3)]) ?_) ⟨rfl, rfl, rfl, rfl, rfl, rfl, rfl, rfl, rfl, trivial⟩ (HS.cons rfl (HS.chunk HS.last))
        · rintro ⟨t, lo, I1⟩ ⟨ht, hO, hlo⟩ ih; dsimp only at ht hO hlo ih ⊢
          refine GE_seq ?_
          refine GE_seq ?_
          refine GE_plain (.st 0 (.st 1 (.st 2 .nil))) rfl ?_
          refine GT_st rfl rfl rfl rfl (V_move rfl rfl) ?_
          refine GT_st rfl rfl rfl rfl (V_move rfl rfl) ?_
          refine GT_st rfl rfl rfl rfl (V_lss rfl rfl rfl) ?_
          refine GT_nil ?_
          first | refine GE_condNot rfl (fun q5 => ?_) (fun q5 => ?_) | refine GE_cond rfl (fun q5 => ?_) (fun q5 => ?_) | refine GE_condNotB rfl (fun q5 => ?_) (fun q5 => ?_) | refine GE_condB rfl (fun q5 => ?_) (fun q5 => ?_)
          · have htF : t < (fin p).toNat := (by omega); have eE : soE l p t = 0 := (by rw [soE, if_pos q2, if_neg (by omega)]); have eS : soL l p t = srcs p t p.length := if_pos eE; have hsl : (srcs p t p.length).length = (sndI p t p.length).length := (by unfold srcs; rw [List.length_map]); have hs2 := sndI_two hP (t : Int); have hmb := mixN_bd8 hP (vR_bd hP) (Nat.le_refl _) (t : Int); unfold Sam.bd at hmb
            refine GE_skip ?_
            refine GE_seq ?_
            refine GE_block ?_
            refine GE_seq ?_
            refine GE_plain (.st 0 (.st 1 (.st 2 (.ld 3 [] (.st 4 (.st 5 (.st 6 (.st 7 (.st 8 .nil))))))))) rfl ?_
            refine GT_st rfl rfl rfl rfl (V_move rfl rfl) ?_
            refine GT_st rfl rfl rfl rfl (V_move rfl rfl) ?_
            refine GT_st rfl rfl rfl rfl (V_move rfl rfl) ?_
            refine GT_call rfl rfl rfl rfl rfl rfl rfl rfl rn_39 (fun w hw => C_Sources (t := (t : Int)) (h.sh hw) (hp.sh hw)) (fun _ _ => GR_nil) (fun u hu => ?_)
            rw [eS] at hu; rw [eS, eE]
            refine GT_st rfl rfl rfl rfl (V_move rfl rfl) ?_
            refine GT_st rfl rfl rfl rfl (V_extract rfl rfl rfl) ?_
            refine GT_st rfl rfl rfl rfl (V_extract rfl rfl rfl) ?_
            refine GT_st rfl rfl rfl rfl (V_assign rfl rfl) ?_
            refine GT_st rfl rfl rfl rfl (V_assign rfl rfl) ?_
            refine GT_nil ?_
            refine GE_seq ?_
            refine GE_seq ?_
            refine GE_slots (L' := [(0, _), (1, _), (5, _), (6, _), (8, _), (9, _), (10, _), (11, _), (12, _), (13, _), (14, _)]) ⟨rfl, rfl, rfl, rfl, rfl, rfl, rfl, rfl, rfl, rfl, rfl, trivial⟩ ?_
            refine GE_plain (.st 0 (.st 1 (.st 2 (.st 3 (.st 4 (.st 5 (.st 6 .nil))))))) rfl ?_
            refine GT_st rfl rfl rfl rfl (V_move rfl rfl) ?_
            refine GT_st rfl rfl rfl rfl (V_isF (V_neq rfl rfl rfl) (fun q => q rfl)) ?_
            refine GT_st rfl rfl rfl rfl (V_move rfl rfl) ?_
            refine GT_st_g rfl rfl rfl rfl rfl rfl rfl (V_move rfl rfl) ?_
            refine GT_st_g rfl rfl rfl rfl rfl rfl rfl (V_len rfl Tryd.underlying66 rfl) ?_
            refine GT_st_g rfl rfl rfl rfl rfl rfl rfl (V_isF (V_gtr rfl rfl rfl) (by omega)) ?_
            refine GT_st rfl rfl rfl rfl (V_pick_f rfl rfl rfl) ?_
            refine GT_nil ?_
            refine GE_cond_f rfl ?_
            refine GE_skip ?_
            refine GE_seq ?_
            refine GE_slots (L' := [(0, _), (1, _), (5, _), (6, _), (8, _), (9, _), (10, _), (11, _), (12, _), (13, _), (96, _), (97, _), (98, _)]) ⟨rfl, rfl, rfl, rfl, rfl, rfl, rfl, rfl, rfl, rfl, rfl, rfl, rfl, trivial⟩ ?_
            refine GE_plain (.st 0 (.ld 1 [] (.ld 2 [] .nil))) rfl ?_
            refine GT_st rfl rfl rfl rfl (V_build (vs := [_, _]) rfl rfl zc_35 pl_35 sa_35 rfl) ?_
            refine GT_alloc rfl rfl rfl rfl rfl zc_35 (fun _ => GR_nil) (fun b15 => ?_)
            refine GT_store (vs := [_, _]) (l' := [_, _]) rfl rfl rfl rfl rfl rfl rfl sz_35 rfl rfl (Nat.le_of_ble_eq_true rfl) rfl (GR_nil) ?_
            refine GT_nil ?_
            refine GE_seq ?_
            refine GE_seq ?_
            refine GE_plain (.st 0 .nil) rfl ?_
            refine GT_st rfl rfl rfl rfl (V_assign rfl rfl) ?_
            refine GT_nil ?_
            refine GE_block ?_
            refine GE_to (GE_loop (ι := Nat × Items) (fun z => (srcs p t p.length).length - z.1) (fun z => [(0, .slice A l.length c), (1, .slice A2 p.length c2), (5, .slice y.1 p.length y.2.1), (6, I (fin p)), (8, .slice r.1 (rendL l p).length r.2.1), (9, I (rErr l p)), (10, .slice (some ⟨b80, 0, none⟩) p.length p.length), (11, .bool lo), (12, I t), (13, .slice u.1 (srcs p t p.length).length u.2.1), (15, ptr b15 0), (16, I z.1)]) (fun z => (b15, blk [I (sumI p (vR l p) t ((sndI p t p.length).take z.1)).l, I (sumI p (vR l p) t ((sndI p t p.length).take z.1)).r] 35) :: (z.2 ++ (u.2.2 ++ (r.2.2 ++ y.2.2)))) (fun z => z.1 ≤ (srcs p t p.length).length ∧ Own 1 3 eI (manyL p t ((sndI p t p.length).take z.1)) (.slice (some ⟨b80, 0, none⟩) p.length p.length) z.2) ?_ (0, I1) ?_) ⟨rfl, rfl, rfl, rfl, rfl, rfl, rfl, rfl, rfl, rfl, rfl, rfl, trivial⟩ (HS.cons rfl (HS.chunk (HS.chunk (HS.chunk HS.last))))
            · rintro ⟨j, I2⟩ ⟨hj, hO2⟩ ih2; dsimp only at hj hO2 ih2 ⊢
              refine GE_seq ?_
              refine GE_seq ?_
              refine GE_plain (.st 0 (.st 1 (.st 2 (.st 3 .nil)))) rfl ?_
              refine GT_st rfl rfl rfl rfl (V_move rfl rfl) ?_
              refine GT_st rfl rfl rfl rfl (V_move rfl rfl) ?_
              refine GT_st rfl rfl rfl rfl (V_len rfl Tryd.underlying66 rfl) ?_
              refine GT_st rfl rfl rfl rfl (V_lss rfl rfl rfl) ?_
              refine GT_nil ?_
              first | refine GE_condNot rfl (fun q6 => ?_) (fun q6 => ?_) | refine GE_cond rfl (fun q6 => ?_) (fun q6 => ?_) | refine GE_condNotB rfl (fun q6 => ?_) (fun q6 => ?_) | refine GE_condB rfl (fun q6 => ?_) (fun q6 => ?_)
              · have hjl : j < (srcs p t p.length).length := (by omega); obtain ⟨i, hil, hcd, hsj, hsi⟩ := src_get hjl; have hbb := gd_bgn hG hil; have hpr := gd_prt hG hil; have hfr9 := (hG.each i hil).frto; have hvb := vR_bd hP i ((t : Int) - bgn p i) hil (by omega) (by omega); have hzb := sumI_bd (p := p) (v := vR l p) (t := (t : Int)) (is := sndI p t p.length) (fun i hi => by have hm := sndI_mem hi; exact vR_bd hP i _ hm.1 (by omega) (by have : en p i = bgn p i + lng (pt p i) := rfl; omega)) j (by omega); unfold Sam.bd at hvb hzb; have hnin := sndI_notin (p := p) (t := (t : Int)) (n := p.length) (j := j) (by omega); rw [hsi] at hnin; have hmg : (manyL p t ((sndI p t p.length).take j)).getD i default = (t : Int) - bgn p i := (by rw [many_get hil, if_neg hnin, (mny_in hcd).1, Int.add_zero]); have hml := many_len p t ((sndI p t p.length).take j)
                refine GE_skip ?_
                refine GE_seq ?_
                refine GE_block ?_
                refine GE_seq ?_
                refine GE_slots (L' := [(0, _), (1, _), (5, _), (6, _), (8, _), (9, _), (10, _), (11, _), (12, _), (13, _), (15, _), (16, _)]) ⟨rfl, rfl, rfl, rfl, rfl, rfl, rfl, rfl, rfl, rfl, rfl, rfl, trivial⟩ ?_
                refine GE_plain (.st 0 (.st 1 (.st 2 (.st 3 (.ld 4 [] (.ld 5 [] .nil)))))) rfl ?_
                refine GT_st rfl rfl rfl rfl (V_move rfl rfl) ?_
                refine GT_st rfl rfl rfl rfl (V_move rfl rfl) ?_
                refine GT_st rfl rfl rfl rfl (V_index rfl rfl rfl Tryd.underlying66 sz_70 (k := j) rfl hjl (hu.isSome hjl)) ?_
                refine GT_st rfl rfl rfl rfl (V_loadN (vs := [_, _, _]) rfl rfl ag_70 sz_70 rfl (CellsAt.ownE hu eSrc_len hjl (by rw [hsj]; exact (show eSrc (src p t i) = [I (i : Int), I (pt p i).tk, I ((pt p i).fr + ((t : Int) - bgn p i))] from rfl)))) ?_
                refine GT_alloc rfl rfl rfl rfl rfl zc_70 (fun _ => GR_nil) (fun b17 => ?_)
                refine GT_store (vs := [_, _, _]) (l' := [_, _, _]) rfl rfl rfl rfl rfl rfl rfl sz_70 rfl rfl (Nat.le_of_ble_eq_true rfl) rfl (GR_nil) ?_
                refine GT_nil ?_
                refine GE_cut (ι := Unit) (fun _ => [(0, .slice A l.length c), (1, .slice A2 p.length c2), (5, .slice y.1 p.length y.2.1), (6, I (fin p)), (8, .slice r.1 (rendL l p).length r.2.1), (9, I (rErr l p)), (10, .slice (some ⟨b80, 0, none⟩) p.length p.length), (11, .bool lo), (12, I t), (13, .slice u.1 (srcs p t p.length).length u.2.1), (15, ptr b15 0), (16, I j), (17, ptr b17 0)]) (fun _ => (b17, blk [I (i : Int), I (pt p i).tk, I ((pt p i).fr + ((t : Int) - bgn p i))] 70) :: (b15, blk [I (sumI p (vR l p) t ((sndI p t p.length).take j)).l, I (sumI p (vR l p) t ((sndI p t p.length).take j)).r] 35) :: (I2 ++ (u.2.2 ++ (r.2.2 ++ y.2.2)))) (fun _ => True) ?_ (fun hcut => ?_)
                · intro _ _
                  refine GE_seq ?_
                  refine GE_drawn (.st 0 (.st 1 (.st 2 (.st 3 (.st 4 (.st 5 (.st 6 (.st 7 (.st 8 (.st 9 .nil)))))))))) [] (by decide +kernel) ?_
                  first | refine GT_st rfl rfl rfl rfl (V_field rfl rfl fo_70_2) ?_ | refine GT_st rfl rfl rfl rfl (V_fieldA rfl rfl fo_70_2) ?_
                  refine GT_st rfl rfl rfl rfl (V_load rfl rfl ag_3 (CellAt.item rfl)) ?_
                  refine GT_st rfl rfl rfl rfl (V_move rfl rfl) ?_
                  first | refine GT_st rfl rfl rfl rfl (V_field rfl rfl fo_70_0) ?_ | refine GT_st rfl rfl rfl rfl (V_fieldA rfl rfl fo_70_0) ?_
                  refine GT_st rfl rfl rfl rfl (V_load rfl rfl ag_3 (CellAt.item rfl)) ?_
                  refine GT_st rfl rfl rfl rfl (V_index rfl rfl rfl Tryd.underlying31 sz_30 (k := i) rfl hil (hp.isSome hil)) ?_
                  first | refine GT_st rfl rfl rfl rfl (V_field rfl rfl fo_30_1) ?_ | refine GT_st rfl rfl rfl rfl (V_fieldA rfl rfl fo_30_1) ?_
                  refine GT_st rfl rfl rfl rfl (V_load rfl rfl ag_3 (hp.at1 noM hil (show _ = some (I (pt p i).fr) from rfl))) ?_
                  refine GT_st rfl rfl rfl rfl (V_sub rfl rfl rfl ((wrap_i64 (by omega)).trans (show _ = (t : Int) - bgn p i by omega))) ?_
                  refine GT_st rfl rfl rfl rfl (V_assign rfl rfl) ?_
                  refine GT_nil ?_
                  refine GE_seq ?_
                  refine GE_seq ?_
                  refine GE_slots (L' := [(0, _), (1, _), (5, _), (6, _), (8, _), (9, _), (10, _), (11, _), (12, _), (13, _), (15, _), (16, _), (17, _), (18, _)]) ⟨rfl, rfl, rfl, rfl, rfl, rfl, rfl, rfl, rfl, rfl, rfl, rfl, rfl, rfl, trivial⟩ ?_
                  refine GE_plain (.st 0 (.st 1 (.st 2 (.st 3 (.st 4 (.st 5 (.st 6 (.st 7 (.st 8 (.st 9 (.st 10 (.st 11 (.st 12 (.st 13 (.st 14 (.st 15 (.st 16 (.st 17 .nil)))))))))))))))))) rfl ?_
                  refine GT_st rfl rfl rfl rfl (V_move rfl rfl) ?_
                  refine GT_st rfl rfl rfl rfl (V_move rfl rfl) ?_
                  first | refine GT_st rfl rfl rfl rfl (V_field rfl rfl fo_70_0) ?_ | refine GT_st rfl rfl rfl rfl (V_fieldA rfl rfl fo_70_0) ?_
                  refine GT_st rfl rfl rfl rfl (V_load rfl rfl ag_3 (CellAt.item rfl)) ?_
                  refine GT_st rfl rfl rfl rfl (V_index rfl rfl rfl Tryd.underlying62 sz_3 (k := i) rfl hil (hO2.isSome (k := i) (by omega))) ?_
                  refine GT_st rfl rfl rfl rfl (V_load rfl rfl ag_3 (CellAt.own0 (k := i) hO2 eI_len (by omega) (by rw [hmg]; rfl))) ?_
                  refine GT_st rfl rfl rfl rfl (V_isF (V_neq rfl rfl rfl) (fun q => q rfl)) ?_
                  refine GT_st rfl rfl rfl rfl (V_move rfl rfl) ?_
                  refine GT_st_g rfl rfl rfl rfl rfl rfl rfl (V_move rfl rfl) ?_
                  refine GT_st_g rfl rfl rfl rfl rfl rfl rfl (V_move rfl rfl) ?_
                  refine GT_st_g rfl rfl rfl rfl rfl rfl rfl (V_move rfl rfl) ?_
                  first | refine GT_st_g rfl rfl rfl rfl rfl rfl rfl (V_field rfl rfl fo_70_0) ?_ | refine GT_st_g rfl rfl rfl rfl rfl rfl rfl (V_fieldA rfl rfl fo_70_0) ?_
                  refine GT_st_g rfl rfl rfl rfl rfl rfl rfl (V_load rfl rfl ag_3 (CellAt.item rfl)) ?_
                  refine GT_st_g rfl rfl rfl rfl rfl rfl rfl (V_index rfl rfl rfl Tryd.underlying62 sz_3 (k := i) rfl hil (hy.isSome (k := i) (by rw [bgns_len]; exact hil))) ?_
                  refine GT_st_g rfl rfl rfl rfl rfl rfl rfl (V_load rfl rfl ag_3 (CellAt.own0 (k := i) hy eI_len (by rw [bgns_len]; exact hil) (by rw [bgns_get hil]; rfl))) ?_
                  refine GT_st_g rfl rfl rfl rfl rfl rfl rfl (V_sub rfl rfl rfl (wrap_i64 (by omega))) ?_
                  refine GT_st_g rfl rfl rfl rfl rfl rfl rfl (V_isF (V_neq rfl rfl rfl) (fun q => q rfl)) ?_
                  refine GT_st rfl rfl rfl rfl (V_pick_f rfl rfl rfl) ?_
                  refine GT_nil ?_
                  refine GE_cond_f rfl ?_
                  refine GE_skip ?_
                  refine GE_seq ?_
                  refine GE_slots (L' := [(0, _), (1, _), (5, _), (6, _), (8, _), (9, _), (10, _), (11, _), (12, _), (13, _), (15, _), (16, _), (17, _), (18, _), (164, _), (165, _), (166, _), (167, _), (168, _), (169, _), (170, _), (171, _), (172, _)]) ⟨rfl, rfl, rfl, rfl, rfl, rfl, rfl, rfl, rfl, rfl, rfl, rfl, rfl, rfl, rfl, rfl, rfl, rfl, rfl, rfl, rfl, rfl, rfl, trivial⟩ ?_
                  refine GE_plain (.st 0 (.st 1 (.st 2 (.st 3 (.st 4 (.st 5 (.st 6 (.ld 7 [] .nil)))))))) rfl ?_
                  refine GT_st rfl rfl rfl rfl (V_move rfl rfl) ?_
                  first | refine GT_st rfl rfl rfl rfl (V_field rfl rfl fo_70_0) ?_ | refine GT_st rfl rfl rfl rfl (V_fieldA rfl rfl fo_70_0) ?_
                  refine GT_st rfl rfl rfl rfl (V_load rfl rfl ag_3 (CellAt.item rfl)) ?_
                  refine GT_st rfl rfl rfl rfl (V_index rfl rfl rfl Tryd.underlying62 sz_3 (k := i) rfl hil (hO2.isSome (k := i) (by omega))) ?_
                  refine GT_st rfl rfl rfl rfl (V_load rfl rfl ag_3 (CellAt.own0 (k := i) hO2 eI_len (by omega) (by rw [hmg]; rfl))) ?_
                  refine GT_st rfl rfl rfl rfl (V_add rfl rfl rfl (wrap_i64 (by omega))) ?_
                  refine GT_st rfl rfl rfl rfl (V_index rfl rfl rfl Tryd.underlying62 sz_3 (k := i) rfl hil (hO2.isSome (k := i) (by omega))) ?_
                  refine GT_storeOwn (enc := eI) (q := i) (xx := (t : Int) - bgn p i + 1) rfl rfl rfl rfl rfl rfl rfl sz_3 hO2 eI_len eI_one (by omega) (by decide) (fun _ _ => GR_nil) (fun I3 hO3 => ?_)
                  refine GT_nil ?_
                  refine GE_seq ?_
                  refine GE_slots (L' := [(0, _), (1, _), (5, _), (6, _), (8, _), (9, _), (10, _), (11, _), (12, _), (13, _), (15, _), (16, _), (17, _), (18, _), (164, _), (165, _), (166, _), (167, _), (168, _), (169, _), (170, _), (171, _), (172, _)]) ⟨rfl, rfl, rfl, rfl, rfl, rfl, rfl, rfl, rfl, rfl, rfl, rfl, rfl, rfl, rfl, rfl, rfl, rfl, rfl, rfl, rfl, rfl, rfl, trivial⟩ ?_
                  rw [many_set hil hnin (by rw [(mny_in hcd).1])] at hO3
                  refine GE_plain (.st 0 (.st 1 (.st 2 (.st 3 (.st 4 (.ld 5 [] (.st 6 (.st 7 (.st 8 (.ld 9 [] (.ld 10 [] (.st 11 .nil)))))))))))) rfl ?_
                  refine GT_st rfl rfl rfl rfl (V_move rfl rfl) ?_
                  refine GT_st rfl rfl rfl rfl (V_move rfl rfl) ?_
                  first | refine GT_st rfl rfl rfl rfl (V_field rfl rfl fo_70_0) ?_ | refine GT_st rfl rfl rfl rfl (V_fieldA rfl rfl fo_70_0) ?_
                  refine GT_st rfl rfl rfl rfl (V_load rfl rfl ag_3 (CellAt.item rfl)) ?_
                  refine GT_st rfl rfl rfl rfl (V_move rfl rfl) ?_
                  refine GT_call0 rfl rfl rfl rfl rfl rfl rfl rfl rn_23 (fun w hw => C_SoundZ (i := i) (k := (t : Int) - bgn p i) (h.sh hw) (hp.sh hw) hP hil (by omega) (by omega)) (GR_nil) ?_
                  refine GT_st rfl rfl rfl rfl (V_move rfl rfl) ?_
                  refine GT_st rfl rfl rfl rfl (V_extract rfl rfl rfl) ?_
                  refine GT_st rfl rfl rfl rfl (V_extract rfl rfl rfl) ?_
                  refine GT_alloc rfl rfl rfl rfl rfl zc_35 (fun _ => GR_nil) (fun b19 => ?_)
                  refine GT_store (vs := [_, _]) (l' := [_, _]) rfl rfl rfl rfl rfl rfl rfl sz_35 rfl rfl (Nat.le_of_ble_eq_true rfl) rfl (GR_nil) ?_
                  refine GT_st rfl rfl rfl rfl (V_assign rfl rfl) ?_
                  refine GT_nil ?_
                  refine GE_seq ?_
                  refine GE_seq ?_
                  refine GE_slots (L' := [(0, _), (1, _), (5, _), (6, _), (8, _), (9, _), (10, _), (11, _), (12, _), (13, _), (15, _), (16, _), (19, _), (20, _), (164, _), (165, _), (166, _), (167, _), (168, _), (169, _), (170, _), (171, _), (172, _)]) ⟨rfl, rfl, rfl, rfl, rfl, rfl, rfl, rfl, rfl, rfl, rfl, rfl, rfl, rfl, rfl, rfl, rfl, rfl, rfl, rfl, rfl, rfl, rfl, trivial⟩ ?_
                  refine GE_plain (.st 0 (.st 1 .nil)) rfl ?_
                  refine GT_st rfl rfl rfl rfl (V_move rfl rfl) ?_
                  refine GT_st rfl rfl rfl rfl (V_isF (V_neq rfl rfl rfl) (fun q => q rfl)) ?_
                  refine GT_nil ?_
                  refine GE_cond_f rfl ?_
                  refine GE_skip ?_
                  refine GE_plain (.st 0 (.st 1 (.st 2 (.st 3 (.st 4 (.st 5 (.st 6 (.st 7 (.st 8 (.st 9 (.st 10 (.ld 11 [] .nil)))))))))))) rfl ?_
                  first | refine GT_st rfl rfl rfl rfl (V_field rfl rfl fo_35_0) ?_ | refine GT_st rfl rfl rfl rfl (V_fieldA rfl rfl fo_35_0) ?_
                  refine GT_st rfl rfl rfl rfl (V_load rfl rfl ag_2 (CellAt.item rfl)) ?_
                  first | refine GT_st rfl rfl rfl rfl (V_field rfl rfl fo_35_0) ?_ | refine GT_st rfl rfl rfl rfl (V_fieldA rfl rfl fo_35_0) ?_
                  refine GT_st rfl rfl rfl rfl (V_load rfl rfl ag_2 (CellAt.item rfl)) ?_
                  refine GT_st rfl rfl rfl rfl (V_add rfl rfl rfl (wrap_i64 (by omega))) ?_
                  first | refine GT_st rfl rfl rfl rfl (V_field rfl rfl fo_35_1) ?_ | refine GT_st rfl rfl rfl rfl (V_fieldA rfl rfl fo_35_1) ?_
                  refine GT_st rfl rfl rfl rfl (V_load rfl rfl ag_2 (CellAt.item rfl)) ?_
                  first | refine GT_st rfl rfl rfl rfl (V_field rfl rfl fo_35_1) ?_ | refine GT_st rfl rfl rfl rfl (V_fieldA rfl rfl fo_35_1) ?_
                  refine GT_st rfl rfl rfl rfl (V_load rfl rfl ag_2 (CellAt.item rfl)) ?_
                  refine GT_st rfl rfl rfl rfl (V_add rfl rfl rfl (wrap_i64 (by omega))) ?_
                  refine GT_st rfl rfl rfl rfl (V_build (vs := [_, _]) rfl rfl zc_35 pl_35 sa_35 rfl) ?_
                  refine GT_store (vs := [_, _]) (l' := [_, _]) rfl rfl rfl rfl rfl rfl rfl sz_35 rfl rfl (Nat.le_of_ble_eq_true rfl) rfl (GR_nil) ?_
                  refine GT_nil ?_
                  refine GE_inBlock ?_
                  refine GE_slots (L' := [(0, _), (1, _), (5, _), (6, _), (8, _), (9, _), (10, _), (11, _), (12, _), (13, _), (15, _), (16, _), (164, _), (165, _), (166, _), (167, _), (168, _), (169, _), (170, _), (171, _), (172, _)]) ⟨rfl, rfl, rfl, rfl, rfl, rfl, rfl, rfl, rfl, rfl, rfl, rfl, rfl, rfl, rfl, rfl, rfl, rfl, rfl, rfl, rfl, trivial⟩ ?_
                  refine GE_plain (.st 0 (.st 1 (.ld 2 [] .nil))) rfl ?_
                  refine GT_st rfl rfl rfl rfl (V_move rfl rfl) ?_
                  refine GT_st rfl rfl rfl rfl (V_add rfl rfl rfl (wrap_i64 (by omega))) ?_
                  refine GT_ldv rfl rfl rfl rfl rfl (V_assign rfl rfl) (GR_nil) ?_
                  refine GT_nil ?_
                  exact GE_to (ih2 (j + 1, I3) ⟨by dsimp only; omega, by dsimp only; rw [take_snoc (by omega), hsi]; exact hO3⟩ (by dsimp only; omega)) ⟨rfl, rfl, rfl, rfl, rfl, rfl, rfl, rfl, rfl, rfl, rfl, rfl, trivial⟩ (HS.cons (by dsimp only; rw [take_snoc (by omega), hsi, sumI_snoc]; rfl) (HS.chunk (HS.chunk (HS.chunk HS.last))))
                · skip
                  refine GE_seq ?_
                  refine GE_slots (L' := [(0, _), (1, _), (5, _), (6, _), (8, _), (9, _), (10, _), (11, _), (12, _), (13, _), (15, _), (16, _), (17, _)]) ⟨rfl, rfl, rfl, rfl, rfl, rfl, rfl, rfl, rfl, rfl, rfl, rfl, rfl, trivial⟩ ?_
                  refine GE_drawn (.st 0 (.st 1 (.st 2 (.st 3 (.st 4 (.st 5 (.st 6 (.st 7 (.st 8 (.st 9 (.st 10 (.st 11 (.st 12 (.st 13 (.st 14 (.st 15 (.st 16 (.st 17 (.st 18 (.st 19 (.st 20 (.st 21 (.st 22 (.st 23 (.st 24 (.st 25 (.st 26 (.st 27 (.st 28 (.st 29 (.st 30 (.st 31 (.st 32 (.st 33 (.st 34 (.st 35 .nil)))))))))))))))))))))))))))))))))))) [] (by decide +kernel) ?_
                  first | refine GT_st rfl rfl rfl rfl (V_field rfl rfl fo_70_0) ?_ | refine GT_st rfl rfl rfl rfl (V_fieldA rfl rfl fo_70_0) ?_
                  refine GT_st rfl rfl rfl rfl (V_load rfl rfl ag_3 (CellAt.item rfl)) ?_
                  refine GT_st rfl rfl rfl rfl (V_isF (V_lss rfl rfl rfl) (by omega)) ?_
                  refine GT_st rfl rfl rfl rfl (V_move rfl rfl) ?_
                  first | refine GT_st_g rfl rfl rfl rfl rfl rfl rfl (V_field rfl rfl fo_70_0) ?_ | refine GT_st_g rfl rfl rfl rfl rfl rfl rfl (V_fieldA rfl rfl fo_70_0) ?_
                  refine GT_st_g rfl rfl rfl rfl rfl rfl rfl (V_load rfl rfl ag_3 (CellAt.item rfl)) ?_
                  refine GT_st_g rfl rfl rfl rfl rfl rfl rfl (V_move rfl rfl) ?_
                  refine GT_st_g rfl rfl rfl rfl rfl rfl rfl (V_len rfl Tryd.underlying31 rfl) ?_
                  refine GT_st_g rfl rfl rfl rfl rfl rfl rfl (V_isF (V_geq rfl rfl rfl) (by omega)) ?_
                  refine GT_st rfl rfl rfl rfl (V_pick_f rfl rfl rfl) ?_
                  refine GT_st rfl rfl rfl rfl (V_move rfl rfl) ?_
                  refine GT_st_g rfl rfl rfl rfl rfl rfl rfl (V_move rfl rfl) ?_
                  refine GT_st_g rfl rfl rfl rfl rfl rfl rfl (V_gtr rfl rfl rfl) ?_
                  refine GT_st_g rfl rfl rfl rfl rfl rfl rfl (V_move rfl rfl) ?_
                  first | refine GT_splitNot (d := 124) rfl (fun q7 => ?_) (fun q7 => ?_) | refine GT_split (d := 124) rfl (fun q7 => ?_) (fun q7 => ?_) | refine GT_splitNotB (d := 124) rfl (fun q7 => ?_) (fun q7 => ?_) | refine GT_splitB (d := 124) rfl (fun q7 => ?_) (fun q7 => ?_)
                  · obtain ⟨i1, hil1, _, hsj1, hsi1⟩ := src_get (p := p) (t := (t : Int)) (j := j - 1) (by omega); have hlt1 : i1 < i := (by rw [← hsi, ← hsi1]; exact sndI_lt (by omega) (by omega))
                    first | refine GT_st_g rfl rfl rfl rfl rfl rfl rfl (V_field rfl rfl fo_70_0) ?_ | refine GT_st_g rfl rfl rfl rfl rfl rfl rfl (V_fieldA rfl rfl fo_70_0) ?_
                    refine GT_st_g rfl rfl rfl rfl rfl rfl rfl (V_load rfl rfl ag_3 (CellAt.item rfl)) ?_
                    refine GT_st_g rfl rfl rfl rfl rfl rfl rfl (V_move rfl rfl) ?_
                    refine GT_st_g rfl rfl rfl rfl rfl rfl rfl (V_move rfl rfl) ?_
                    refine GT_st_g rfl rfl rfl rfl rfl rfl rfl (V_sub rfl rfl rfl (wrap_i64 (by omega))) ?_
                    refine GT_st_g rfl rfl rfl rfl rfl rfl rfl (V_index rfl rfl rfl Tryd.underlying66 sz_70 (k := j - 1) (by omega) (by omega) (hu.isSome hjl)) ?_
                    first | refine GT_st_g rfl rfl rfl rfl rfl rfl rfl (V_field rfl rfl fo_70_0) ?_ | refine GT_st_g rfl rfl rfl rfl rfl rfl rfl (V_fieldA rfl rfl fo_70_0) ?_
                    refine GT_st_g rfl rfl rfl rfl rfl rfl rfl (V_load rfl rfl ag_3 (CellAt.own0 (k := j - 1) hu eSrc_len (by omega) (by rw [hsj1]; exact (show _ = some (I (i1 : Int)) from rfl)))) ?_
                    refine GT_st_g rfl rfl rfl rfl rfl rfl rfl (V_isF (V_leq rfl rfl rfl) (by omega)) ?_
                    refine GT_st_g rfl rfl rfl rfl rfl rfl rfl (V_pick_t rfl rfl rfl) ?_
                    refine GT_st rfl rfl rfl rfl (V_pick_f rfl rfl rfl) ?_
                    refine GT_st rfl rfl rfl rfl (V_move rfl rfl) ?_
                    first | refine GT_st_g rfl rfl rfl rfl rfl rfl rfl (V_field rfl rfl fo_70_1) ?_ | refine GT_st_g rfl rfl rfl rfl rfl rfl rfl (V_fieldA rfl rfl fo_70_1) ?_
                    refine GT_st_g rfl rfl rfl rfl rfl rfl rfl (V_load rfl rfl ag_3 (CellAt.item rfl)) ?_
                    refine GT_st_g rfl rfl rfl rfl rfl rfl rfl (V_move rfl rfl) ?_
                    first | refine GT_st_g rfl rfl rfl rfl rfl rfl rfl (V_field rfl rfl fo_70_0) ?_ | refine GT_st_g rfl rfl rfl rfl rfl rfl rfl (V_fieldA rfl rfl fo_70_0) ?_
                    refine GT_st_g rfl rfl rfl rfl rfl rfl rfl (V_load rfl rfl ag_3 (CellAt.item rfl)) ?_
                    refine GT_st_g rfl rfl rfl rfl rfl rfl rfl (V_index rfl rfl rfl Tryd.underlying31 sz_30 (k := i) rfl hil (hp.isSome hil)) ?_
                    first | refine GT_st_g rfl rfl rfl rfl rfl rfl rfl (V_field rfl rfl fo_30_0) ?_ | refine GT_st_g rfl rfl rfl rfl rfl rfl rfl (V_fieldA rfl rfl fo_30_0) ?_
                    refine GT_st_g rfl rfl rfl rfl rfl rfl rfl (V_load rfl rfl ag_3 (hp.at0 noM hil (show _ = some (I (pt p i).tk) from rfl))) ?_
                    refine GT_st_g rfl rfl rfl rfl rfl rfl rfl (V_isF (V_neq rfl rfl rfl) (fun q => q rfl)) ?_
                    refine GT_st rfl rfl rfl rfl (V_pick_f rfl rfl rfl) ?_
                    refine GT_nil ?_
                    refine GE_cond_f rfl ?_
                    refine GE_skip ?_
                    exact GE_to (hcut () trivial) ⟨rfl, rfl, rfl, rfl, rfl, rfl, rfl, rfl, rfl, rfl, rfl, rfl, rfl, trivial⟩ HS.all
                  · skip
                    refine GT_skip rfl rfl rfl rfl rfl (by decide) rfl rfl ?_
                    refine GT_skip rfl rfl rfl rfl rfl (by decide) rfl rfl ?_
                    refine GT_skip rfl rfl rfl rfl rfl (by decide) rfl rfl ?_
                    refine GT_skip rfl rfl rfl rfl rfl (by decide) rfl rfl ?_
                    refine GT_skip rfl rfl rfl rfl rfl (by decide) rfl rfl ?_
                    refine GT_skip rfl rfl rfl rfl rfl (by decide) rfl rfl ?_
                    refine GT_skip rfl rfl rfl rfl rfl (by decide) rfl rfl ?_
                    refine GT_skip rfl rfl rfl rfl rfl (by decide) rfl rfl ?_
                    refine GT_skip rfl rfl rfl rfl rfl (by decide) rfl rfl ?_
                    refine GT_st_g rfl rfl rfl rfl rfl rfl rfl (V_pick_f rfl rfl rfl) ?_
                    refine GT_st rfl rfl rfl rfl (V_pick_f rfl rfl rfl) ?_
                    refine GT_st rfl rfl rfl rfl (V_move rfl rfl) ?_
                    first | refine GT_st_g rfl rfl rfl rfl rfl rfl rfl (V_field rfl rfl fo_70_1) ?_ | refine GT_st_g rfl rfl rfl rfl rfl rfl rfl (V_fieldA rfl rfl fo_70_1) ?_
                    refine GT_st_g rfl rfl rfl rfl rfl rfl rfl (V_load rfl rfl ag_3 (CellAt.item rfl)) ?_
                    refine GT_st_g rfl rfl rfl rfl rfl rfl rfl (V_move rfl rfl) ?_
                    first | refine GT_st_g rfl rfl rfl rfl rfl rfl rfl (V_field rfl rfl fo_70_0) ?_ | refine GT_st_g rfl rfl rfl rfl rfl rfl rfl (V_fieldA rfl rfl fo_70_0) ?_
                    refine GT_st_g rfl rfl rfl rfl rfl rfl rfl (V_load rfl rfl ag_3 (CellAt.item rfl)) ?_
                    refine GT_st_g rfl rfl rfl rfl rfl rfl rfl (V_index rfl rfl rfl Tryd.underlying31 sz_30 (k := i) rfl hil (hp.isSome hil)) ?_
                    first | refine GT_st_g rfl rfl rfl rfl rfl rfl rfl (V_field rfl rfl fo_30_0) ?_ | refine GT_st_g rfl rfl rfl rfl rfl rfl rfl (V_fieldA rfl rfl fo_30_0) ?_
                    refine GT_st_g rfl rfl rfl rfl rfl rfl rfl (V_load rfl rfl ag_3 (hp.at0 noM hil (show _ = some (I (pt p i).tk) from rfl))) ?_
                    refine GT_st_g rfl rfl rfl rfl rfl rfl rfl (V_isF (V_neq rfl rfl rfl) (fun q => q rfl)) ?_
                    refine GT_st rfl rfl rfl rfl (V_pick_f rfl rfl rfl) ?_
                    refine GT_nil ?_
                    refine GE_cond_f rfl ?_
                    refine GE_skip ?_
                    exact GE_to (hcut () trivial) ⟨rfl, rfl, rfl, rfl, rfl, rfl, rfl, rfl, rfl, rfl, rfl, rfl, rfl, trivial⟩ HS.all
              · have hall : (sndI p t p.length).take j = sndI p t p.length := List.take_of_length_le (by omega); rw [hall] at hO2; rw [hall, ← mixN_sum]
                refine GE_exit rfl ?_
                refine GE_cut (ι := Bool) (fun lo2 => [(0, .slice A l.length c), (1, .slice A2 p.length c2), (5, .slice y.1 p.length y.2.1), (6, I (fin p)), (8, .slice r.1 (rendL l p).length r.2.1), (9, I (rErr l p)), (10, .slice (some ⟨b80, 0, none⟩) p.length p.length), (11, .bool lo2), (12, I t), (15, ptr b15 0)]) (fun lo2 => (b15, blk [I (mixN p (vR l p) p.length t).l, I (mixN p (vR l p) p.length t).r] 35) :: (I2 ++ (u.2.2 ++ (r.2.2 ++ y.2.2)))) (fun lo2 => lo2 = true ↔ (∃ s : Nat, s < t ∧ (mixN p (vR l p) p.length s).ok = false) ∨ (mixN p (vR l p) p.length t).ok = false) ?_ (fun hcut => ?_)
                · intro lo2 hl2; have hlo2 : lo2 = true ↔ ∃ s : Nat, s < t + 1 ∧ (mixN p (vR l p) p.length s).ok = false := (by rw [hl2]; constructor; rintro (⟨s, h1, h2⟩ | h2); exact ⟨s, by omega, h2⟩; exact ⟨t, by omega, h2⟩; rintro ⟨s, h1, h2⟩; rcases Nat.lt_or_ge s t with r | r; exact .inl ⟨s, r, h2⟩; rw [show s = t by omega] at h2; exact .inr h2)
                  refine GE_seq ?_
                  refine GE_drawn (.st 0 (.st 1 (.st 2 (.st 3 (.st 4 (.st 5 (.st 6 (.st 7 (.st 8 (.st 9 .nil)))))))))) [] (by decide +kernel) ?_
                  refine GT_st rfl rfl rfl rfl (V_move rfl rfl) ?_
                  refine GT_st rfl rfl rfl rfl (V_eql rfl rfl rfl) ?_
                  refine GT_st rfl rfl rfl rfl (V_move rfl rfl) ?_
                  first | refine GT_splitNot (d := 218) rfl (fun q10 => ?_) (fun q10 => ?_) | refine GT_split (d := 218) rfl (fun q10 => ?_) (fun q10 => ?_) | refine GT_splitNotB (d := 218) rfl (fun q10 => ?_) (fun q10 => ?_) | refine GT_splitB (d := 218) rfl (fun q10 => ?_) (fun q10 => ?_)
                  · have hrt := hrl.2 q10; have hgt : (rendL l p).getD t default = mixN p (vR l p) p.length t := (by rw [show rendL l p = rend l p from if_pos q10]; exact mix_get htF)
                    refine GT_st_g rfl rfl rfl rfl rfl rfl rfl (V_move rfl rfl) ?_
                    refine GT_st_g rfl rfl rfl rfl rfl rfl rfl (V_move rfl rfl) ?_
                    refine GT_st_g rfl rfl rfl rfl rfl rfl rfl (V_index rfl rfl rfl Tryd.underlying22 sz_35 (k := t) rfl (by omega) (hr.isSome (k := t) (by omega))) ?_
                    refine GT_st_g rfl rfl rfl rfl rfl rfl rfl (V_loadN (vs := [_, _]) rfl rfl ag_35 sz_35 rfl (CellsAt.ownE hr eSam_len (k := t) (by omega) (by rw [hgt]; rfl))) ?_
                    refine GT_st_g rfl rfl rfl rfl rfl rfl rfl (V_loadN (vs := [_, _]) rfl rfl ag_35 sz_35 rfl (CellsAt.item rfl)) ?_
                    refine GT_st_g rfl rfl rfl rfl rfl rfl rfl (V_isF (V_neqInts (zs := [_, _]) (zs' := [_, _]) rfl rfl rfl is_35 rfl rfl) (fun q => q rfl)) ?_
                    refine GT_st rfl rfl rfl rfl (V_pick_t rfl rfl rfl) ?_
                    refine GT_nil ?_
                    refine GE_cond_f rfl ?_
                    refine GE_skip ?_
                    refine GE_inBlock ?_
                    refine GE_slots (L' := [(0, _), (1, _), (5, _), (6, _), (8, _), (9, _), (10, _), (11, _), (12, _), (219, _), (220, _), (221, _), (222, _), (223, _), (224, _)]) ⟨rfl, rfl, rfl, rfl, rfl, rfl, rfl, rfl, rfl, rfl, rfl, rfl, rfl, rfl, rfl, trivial⟩ ?_
                    refine GE_plain (.st 0 (.st 1 (.ld 2 [] .nil))) rfl ?_
                    refine GT_st rfl rfl rfl rfl (V_move rfl rfl) ?_
                    refine GT_st rfl rfl rfl rfl (V_add rfl rfl rfl (wrap_i64 (by omega))) ?_
                    refine GT_ldv rfl rfl rfl rfl rfl (V_assign rfl rfl) (GR_nil) ?_
                    refine GT_nil ?_
                    exact GE_to (ih (t + 1, lo2, I2) ⟨by dsimp only; omega, by dsimp only; rw [Int.natCast_succ, ← many_next hP]; exact hO2, hlo2⟩ (by dsimp only; omega)) ⟨rfl, rfl, rfl, rfl, rfl, rfl, rfl, rfl, rfl, trivial⟩ (HS.chunk (HS.chunk HS.last))
                  · skip
                    refine GT_skip rfl rfl rfl rfl rfl (by decide) rfl rfl ?_
                    refine GT_skip rfl rfl rfl rfl rfl (by decide) rfl rfl ?_
                    refine GT_skip rfl rfl rfl rfl rfl (by decide) rfl rfl ?_
                    refine GT_skip rfl rfl rfl rfl rfl (by decide) rfl rfl ?_
                    refine GT_skip rfl rfl rfl rfl rfl (by decide) rfl rfl ?_
                    refine GT_skip rfl rfl rfl rfl rfl (by decide) rfl rfl ?_
                    refine GT_st rfl rfl rfl rfl (V_pick_f rfl rfl rfl) ?_
                    refine GT_nil ?_
                    refine GE_cond_f rfl ?_
                    refine GE_skip ?_
                    refine GE_inBlock ?_
                    refine GE_slots (L' := [(0, _), (1, _), (5, _), (6, _), (8, _), (9, _), (10, _), (11, _), (12, _), (219, _), (220, _), (221, _), (222, _), (223, _), (224, _)]) ⟨rfl, rfl, rfl, rfl, rfl, rfl, rfl, rfl, rfl, rfl, rfl, rfl, rfl, rfl, rfl, trivial⟩ ?_
                    refine GE_plain (.st 0 (.st 1 (.ld 2 [] .nil))) rfl ?_
                    refine GT_st rfl rfl rfl rfl (V_move rfl rfl) ?_
                    refine GT_st rfl rfl rfl rfl (V_add rfl rfl rfl (wrap_i64 (by omega))) ?_
                    refine GT_ldv rfl rfl rfl rfl rfl (V_assign rfl rfl) (GR_nil) ?_
                    refine GT_nil ?_
                    exact GE_to (ih (t + 1, lo2, I2) ⟨by dsimp only; omega, by dsimp only; rw [Int.natCast_succ, ← many_next hP]; exact hO2, hlo2⟩ (by dsimp only; omega)) ⟨rfl, rfl, rfl, rfl, rfl, rfl, rfl, rfl, rfl, trivial⟩ (HS.chunk (HS.chunk HS.last))
                · skip
                  refine GE_slots (L' := [(0, _), (1, _), (5, _), (6, _), (8, _), (9, _), (10, _), (11, _), (12, _), (15, _)]) ⟨rfl, rfl, rfl, rfl, rfl, rfl, rfl, rfl, rfl, rfl, trivial⟩ ?_
                  refine GE_plain (.st 0 (.st 1 (.st 2 (.st 3 (.ld 4 [] (.st 5 (.st 6 (.st 7 (.st 8 (.st 9 (.ld 10 [] (.st 11 (.st 12 (.ld 13 [] .nil)))))))))))))) rfl ?_
                  refine GT_st rfl rfl rfl rfl (V_move rfl rfl) ?_
                  refine GT_st rfl rfl rfl rfl (V_move rfl rfl) ?_
                  first | refine GT_splitNot (d := 204) rfl (fun q8 => ?_) (fun q8 => ?_) | refine GT_split (d := 204) rfl (fun q8 => ?_) (fun q8 => ?_) | refine GT_splitNotB (d := 204) rfl (fun q8 => ?_) (fun q8 => ?_) | refine GT_splitB (d := 204) rfl (fun q8 => ?_) (fun q8 => ?_)
                  · skip
                    refine GT_skip rfl rfl rfl rfl rfl (by decide) rfl rfl ?_
                    refine GT_skip rfl rfl rfl rfl rfl (by decide) rfl rfl ?_
                    refine GT_skip_ld rfl rfl rfl rfl rfl (by decide) rfl rfl rfl (GR_nil) ?_
                    refine GT_skip rfl rfl rfl rfl rfl (by decide) rfl rfl ?_
                    refine GT_st rfl rfl rfl rfl (V_pick_t rfl rfl rfl) ?_
                    refine GT_st rfl rfl rfl rfl (V_move rfl rfl) ?_
                    refine GT_skip rfl rfl rfl rfl rfl (by decide) rfl rfl ?_
                    refine GT_skip rfl rfl rfl rfl rfl (by decide) rfl rfl ?_
                    refine GT_skip_ld rfl rfl rfl rfl rfl (by decide) rfl rfl rfl (GR_nil) ?_
                    refine GT_skip rfl rfl rfl rfl rfl (by decide) rfl rfl ?_
                    refine GT_st rfl rfl rfl rfl (V_pick_t rfl rfl rfl) ?_
                    refine GT_ldv rfl rfl rfl rfl rfl (V_assign rfl rfl) (GR_nil) ?_
                    refine GT_nil ?_
                    first
                      | exact GE_to (hcut true ⟨fun _ => .inl (hlo.1 q8), fun _ => rfl⟩) ⟨rfl, rfl, rfl, rfl, rfl, rfl, rfl, rfl, rfl, rfl, trivial⟩ (HS.cons rfl HS.last)
                      | exact GE_to (hcut true ⟨fun _ => .inr (by rw [Bool.eq_false_iff]; intro e; have := Sam.ok_iff.1 e; unfold amt at q9; omega), fun _ => rfl⟩) ⟨rfl, rfl, rfl, rfl, rfl, rfl, rfl, rfl, rfl, rfl, trivial⟩ (HS.cons rfl HS.last)
                      | exact GE_to (hcut _ ⟨fun e => .inr (by have e9 := of_decide_eq_true e; rw [Bool.eq_false_iff]; intro e; have := Sam.ok_iff.1 e; unfold amt at e9; omega), fun e => by rcases e with e | e; exact absurd (hlo.2 e) (by rw [q8]; decide); refine decide_eq_true ?_; rw [Bool.eq_false_iff, Ne, Sam.ok_iff] at e; unfold amt at q9 ⊢; omega⟩) ⟨rfl, rfl, rfl, rfl, rfl, rfl, rfl, rfl, rfl, rfl, trivial⟩ (HS.cons rfl HS.last)
                  · skip
                    first | refine GT_st_g rfl rfl rfl rfl rfl rfl rfl (V_field rfl rfl fo_35_0) ?_ | refine GT_st_g rfl rfl rfl rfl rfl rfl rfl (V_fieldA rfl rfl fo_35_0) ?_
                    refine GT_st_g rfl rfl rfl rfl rfl rfl rfl (V_load rfl rfl ag_2 (CellAt.item rfl)) ?_
                    refine GT_call0_g rfl rfl rfl rfl rfl rfl rfl rfl rfl rfl rfl rn_18 (fun w hw => C_amount (by omega)) (GR_nil) ?_
                    refine GT_st_g rfl rfl rfl rfl rfl rfl rfl (V_gtr rfl rfl rfl) ?_
                    refine GT_st rfl rfl rfl rfl (V_pick_f rfl rfl rfl) ?_
                    refine GT_st rfl rfl rfl rfl (V_move rfl rfl) ?_
                    first | refine GT_splitNot (d := 210) rfl (fun q9 => ?_) (fun q9 => ?_) | refine GT_split (d := 210) rfl (fun q9 => ?_) (fun q9 => ?_) | refine GT_splitNotB (d := 210) rfl (fun q9 => ?_) (fun q9 => ?_) | refine GT_splitB (d := 210) rfl (fun q9 => ?_) (fun q9 => ?_)
                    · skip
                      refine GT_skip rfl rfl rfl rfl rfl (by decide) rfl rfl ?_
                      refine GT_skip rfl rfl rfl rfl rfl (by decide) rfl rfl ?_
                      refine GT_skip_ld rfl rfl rfl rfl rfl (by decide) rfl rfl rfl (GR_nil) ?_
                      refine GT_skip rfl rfl rfl rfl rfl (by decide) rfl rfl ?_
                      refine GT_st rfl rfl rfl rfl (V_pick_t rfl rfl rfl) ?_
                      refine GT_ldv rfl rfl rfl rfl rfl (V_assign rfl rfl) (GR_nil) ?_
                      refine GT_nil ?_
                      first
                        | exact GE_to (hcut true ⟨fun _ => .inl (hlo.1 q8), fun _ => rfl⟩) ⟨rfl, rfl, rfl, rfl, rfl, rfl, rfl, rfl, rfl, rfl, trivial⟩ (HS.cons rfl HS.last)
                        | exact GE_to (hcut true ⟨fun _ => .inr (by rw [Bool.eq_false_iff]; intro e; have := Sam.ok_iff.1 e; unfold amt at q9; omega), fun _ => rfl⟩) ⟨rfl, rfl, rfl, rfl, rfl, rfl, rfl, rfl, rfl, rfl, trivial⟩ (HS.cons rfl HS.last)
                        | exact GE_to (hcut _ ⟨fun e => .inr (by have e9 := of_decide_eq_true e; rw [Bool.eq_false_iff]; intro e; have := Sam.ok_iff.1 e; unfold amt at e9; omega), fun e => by rcases e with e | e; exact absurd (hlo.2 e) (by rw [q8]; decide); refine decide_eq_true ?_; rw [Bool.eq_false_iff, Ne, Sam.ok_iff] at e; unfold amt at q9 ⊢; omega⟩) ⟨rfl, rfl, rfl, rfl, rfl, rfl, rfl, rfl, rfl, rfl, trivial⟩ (HS.cons rfl HS.last)
                    · skip
                      first | refine GT_st_g rfl rfl rfl rfl rfl rfl rfl (V_field rfl rfl fo_35_1) ?_ | refine GT_st_g rfl rfl rfl rfl rfl rfl rfl (V_fieldA rfl rfl fo_35_1) ?_
                      refine GT_st_g rfl rfl rfl rfl rfl rfl rfl (V_load rfl rfl ag_2 (CellAt.item rfl)) ?_
                      refine GT_call0_g rfl rfl rfl rfl rfl rfl rfl rfl rfl rfl rfl rn_18 (fun w hw => C_amount (by omega)) (GR_nil) ?_
                      refine GT_st_g rfl rfl rfl rfl rfl rfl rfl (V_gtr rfl rfl rfl) ?_
                      refine GT_st rfl rfl rfl rfl (V_pick_f rfl rfl rfl) ?_
                      refine GT_ldv rfl rfl rfl rfl rfl (V_assign rfl rfl) (GR_nil) ?_
                      refine GT_nil ?_
                      first
                        | exact GE_to (hcut true ⟨fun _ => .inl (hlo.1 q8), fun _ => rfl⟩) ⟨rfl, rfl, rfl, rfl, rfl, rfl, rfl, rfl, rfl, rfl, trivial⟩ (HS.cons rfl HS.last)
                        | exact GE_to (hcut true ⟨fun _ => .inr (by rw [Bool.eq_false_iff]; intro e; have := Sam.ok_iff.1 e; unfold amt at q9; omega), fun _ => rfl⟩) ⟨rfl, rfl, rfl, rfl, rfl, rfl, rfl, rfl, rfl, rfl, trivial⟩ (HS.cons rfl HS.last)
                        | exact GE_to (hcut _ ⟨fun e => .inr (by have e9 := of_decide_eq_true e; rw [Bool.eq_false_iff]; intro e; have := Sam.ok_iff.1 e; unfold amt at e9; omega), fun e => by rcases e with e | e; exact absurd (hlo.2 e) (by rw [q8]; decide); refine decide_eq_true ?_; rw [Bool.eq_false_iff, Ne, Sam.ok_iff] at e; unfold amt at q9 ⊢; omega⟩) ⟨rfl, rfl, rfl, rfl, rfl, rfl, rfl, rfl, rfl, rfl, trivial⟩ (HS.cons rfl HS.last)
            · exact ⟨Nat.zero_le _, hO⟩
          · obtain rfl : t = (fin p).toNat := (by omega); rw [show (((fin p).toNat : Nat) : Int) = fin p by omega] at hO
            refine GE_exit rfl ?_
            refine GE_seq ?_
            refine GE_seq ?_
            refine GE_slots (L' := [(1, _), (9, _), (10, _), (11, _)]) ⟨rfl, rfl, rfl, rfl, trivial⟩ ?_
            refine GE_plain (.st 0 .nil) rfl ?_
            refine GT_st rfl rfl rfl rfl (V_assign rfl rfl) ?_
            refine GT_nil ?_
            refine GE_block ?_
            refine GE_to (GE_loop (ι := Nat) (fun i => p.length - i) (fun i => [(1, .slice A2 p.length c2), (9, I (rErr l p)), (10, .slice (some ⟨b80, 0, none⟩) p.length p.length), (11, .bool lo), (21, I i)]) (fun i => I1) (fun i => i ≤ p.length) ?_ 0 ?_) ⟨rfl, rfl, rfl, rfl, rfl, trivial⟩ HS.last
            · intro i hi ih2; have hml := many_len p (fin p) []
              refine GE_seq ?_
              refine GE_seq ?_
              refine GE_plain (.st 0 (.st 1 (.st 2 (.st 3 .nil)))) rfl ?_
              refine GT_st rfl rfl rfl rfl (V_move rfl rfl) ?_
              refine GT_st rfl rfl rfl rfl (V_move rfl rfl) ?_
              refine GT_st rfl rfl rfl rfl (V_len rfl Tryd.underlying31 rfl) ?_
              refine GT_st rfl rfl rfl rfl (V_lss rfl rfl rfl) ?_
              refine GT_nil ?_
              first | refine GE_condNot rfl (fun q11 => ?_) (fun q11 => ?_) | refine GE_cond rfl (fun q11 => ?_) (fun q11 => ?_) | refine GE_condNotB rfl (fun q11 => ?_) (fun q11 => ?_) | refine GE_condB rfl (fun q11 => ?_) (fun q11 => ?_)
              · have hil : i < p.length := (by omega); have hpr := gd_prt hG hil; have hmf := many_fin hP hil; have hfr9 := (hG.each i hil).frto
                refine GE_skip ?_
                refine GE_seq ?_
                refine GE_block ?_
                refine GE_seq ?_
                refine GE_slots (L' := [(1, _), (9, _), (10, _), (11, _), (21, _)]) ⟨rfl, rfl, rfl, rfl, rfl, trivial⟩ ?_
                refine GE_drawn (.st 0 (.st 1 (.st 2 (.st 3 (.st 4 (.st 5 (.st 6 (.st 7 (.st 8 (.st 9 (.st 10 (.st 11 (.st 12 (.st 13 (.st 14 (.st 15 .nil)))))))))))))))) [] (by decide +kernel) ?_
                refine GT_st rfl rfl rfl rfl (V_move rfl rfl) ?_
                refine GT_st rfl rfl rfl rfl (V_move rfl rfl) ?_
                refine GT_st rfl rfl rfl rfl (V_index rfl rfl rfl Tryd.underlying62 sz_3 (k := i) rfl hil (hO.isSome (k := i) (by omega))) ?_
                refine GT_st rfl rfl rfl rfl (V_load rfl rfl ag_3 (CellAt.own0 (k := i) hO eI_len (by omega) (by rw [hmf]; rfl))) ?_
                refine GT_st rfl rfl rfl rfl (V_move rfl rfl) ?_
                refine GT_st rfl rfl rfl rfl (V_move rfl rfl) ?_
                refine GT_st rfl rfl rfl rfl (V_index rfl rfl rfl Tryd.underlying31 sz_30 (k := i) rfl hil (hp.isSome hil)) ?_
                first | refine GT_st rfl rfl rfl rfl (V_field rfl rfl fo_30_2) ?_ | refine GT_st rfl rfl rfl rfl (V_fieldA rfl rfl fo_30_2) ?_
                refine GT_st rfl rfl rfl rfl (V_load rfl rfl ag_3 (hp.at1 noM hil (show _ = some (I (pt p i).to) from rfl))) ?_
                refine GT_st rfl rfl rfl rfl (V_move rfl rfl) ?_
                refine GT_st rfl rfl rfl rfl (V_move rfl rfl) ?_
                refine GT_st rfl rfl rfl rfl (V_index rfl rfl rfl Tryd.underlying31 sz_30 (k := i) rfl hil (hp.isSome hil)) ?_
                first | refine GT_st rfl rfl rfl rfl (V_field rfl rfl fo_30_1) ?_ | refine GT_st rfl rfl rfl rfl (V_fieldA rfl rfl fo_30_1) ?_
                refine GT_st rfl rfl rfl rfl (V_load rfl rfl ag_3 (hp.at1 noM hil (show _ = some (I (pt p i).fr) from rfl))) ?_
                refine GT_st rfl rfl rfl rfl (V_sub rfl rfl rfl ((wrap_i64 (by omega)).trans (show _ = lng (pt p i) from rfl))) ?_
                refine GT_st rfl rfl rfl rfl (V_isF (V_neq rfl rfl rfl) (fun q => q rfl)) ?_
                refine GT_nil ?_
                refine GE_cond_f rfl ?_
                refine GE_skip ?_
                refine GE_inBlock ?_
                refine GE_slots (L' := [(1, _), (9, _), (10, _), (11, _), (21, _)]) ⟨rfl, rfl, rfl, rfl, rfl, trivial⟩ ?_
                refine GE_plain (.st 0 (.st 1 (.ld 2 [] .nil))) rfl ?_
                refine GT_st rfl rfl rfl rfl (V_move rfl rfl) ?_
                refine GT_st rfl rfl rfl rfl (V_add rfl rfl rfl (wrap_i64 (by omega))) ?_
                refine GT_ldv rfl rfl rfl rfl rfl (V_assign rfl rfl) (GR_nil) ?_
                refine GT_nil ?_
                exact GE_to (ih2 (i + 1) (by omega) (by omega)) ⟨rfl, rfl, rfl, rfl, rfl, trivial⟩ HS.all
              · have hle := loud_err hP
                refine GE_exit rfl ?_
                refine GE_seq ?_
                refine GE_slots (L' := [(9, _), (11, _)]) ⟨rfl, rfl, trivial⟩ ?_
                refine GE_plain (.st 0 (.st 1 (.st 2 (.st 3 (.st 4 (.ld 5 [] (.st 6 (.st 7 .nil)))))))) rfl ?_
                refine GT_st rfl rfl rfl rfl (V_move rfl rfl) ?_
                refine GT_st rfl rfl rfl rfl (V_move rfl rfl) ?_
                refine GT_st rfl rfl rfl rfl (V_eql rfl rfl rfl) ?_
                refine GT_st rfl rfl rfl rfl (V_eqlBB_same rfl rfl rfl Tryd.underlying4 (by rw [Bool.eq_iff_iff, decide_eq_true_iff, hle, hlo])) ?_
                refine GT_st rfl rfl rfl rfl (V_move rfl rfl) ?_
                refine GT_call0_g rfl rfl rfl rfl rfl rfl rfl rfl rfl rfl rfl rn_16 (fun w hw => C_Works) (GR_nil) ?_
                refine GT_st rfl rfl rfl rfl (V_pick_t rfl rfl rfl) ?_
                refine GT_st rfl rfl rfl rfl (V_assign rfl rfl) ?_
                refine GT_nil ?_
                refine GE_ret Tryd.func14 rfl (fun w hw => ⟨?_, hw.nil⟩)
                rfl
            · exact Nat.zero_le _
        · exact ⟨Nat.zero_le _, (by rw [show manyL p (((0, false, [(b80, blk ((List.replicate p.length [I 0]).flatten) 3)]) : Nat × Bool × Items).1 : Int) [] = List.replicate p.length 0 from many_zero hP]; exact Own.made (x := (0 : Int)) rfl (by unfold maxLen; omega)), ⟨fun h => (by cases h), fun ⟨s, hs, _⟩ => absurd hs (Nat.not_lt_zero _)⟩⟩
      · skip
        refine GE_seq ?_
        refine GE_slots (L' := [(0, _), (1, _), (5, _), (6, _), (8, _), (9, _)]) ⟨rfl, rfl, rfl, rfl, rfl, rfl, trivial⟩ ?_
        refine GE_plain (.st 0 (.st 1 (.st 2 (.st 3 (.st 4 (.st 5 (.st 6 (.st 7 (.st 8 (.st 9 (.st 10 (.st 11 (.st 12 (.st 13 (.st 14 (.st 15 .nil)))))))))))))))) rfl ?_
        refine GT_st rfl rfl rfl rfl (V_move rfl rfl) ?_
        refine GT_st rfl rfl rfl rfl (V_neq rfl rfl rfl) ?_
        refine GT_st rfl rfl rfl rfl (V_move rfl rfl) ?_
        first | refine GT_splitNot (d := 64) rfl (fun q3 => ?_) (fun q3 => ?_) | refine GT_split (d := 64) rfl (fun q3 => ?_) (fun q3 => ?_) | refine GT_splitNotB (d := 64) rfl (fun q3 => ?_) (fun q3 => ?_) | refine GT_splitB (d := 64) rfl (fun q3 => ?_) (fun q3 => ?_)
        · skip
          refine GT_st_g rfl rfl rfl rfl rfl rfl rfl (V_move rfl rfl) ?_
          refine GT_st_g rfl rfl rfl rfl rfl rfl rfl (V_isF (V_neq rfl rfl rfl) (by rcases rErr_two (gErr_zero.2 hP) with e | e; exact absurd e q3; exact fun q => q e)) ?_
          refine GT_st rfl rfl rfl rfl (V_pick_t rfl rfl rfl) ?_
          refine GT_st rfl rfl rfl rfl (V_move rfl rfl) ?_
          refine GT_st_g rfl rfl rfl rfl rfl rfl rfl (V_move rfl rfl) ?_
          refine GT_st_g rfl rfl rfl rfl rfl rfl rfl (V_eql rfl rfl rfl) ?_
          refine GT_st_g rfl rfl rfl rfl rfl rfl rfl (V_move rfl rfl) ?_
          first | refine GT_splitNot (d := 71) rfl (fun q4 => ?_) (fun q4 => ?_) | refine GT_split (d := 71) rfl (fun q4 => ?_) (fun q4 => ?_) | refine GT_splitNotB (d := 71) rfl (fun q4 => ?_) (fun q4 => ?_) | refine GT_splitB (d := 71) rfl (fun q4 => ?_) (fun q4 => ?_)
          · skip
            refine GT_st_g rfl rfl rfl rfl rfl rfl rfl (V_move rfl rfl) ?_
            refine GT_st_g rfl rfl rfl rfl rfl rfl rfl (V_len rfl Tryd.underlying22 rfl) ?_
            refine GT_st_g rfl rfl rfl rfl rfl rfl rfl (V_move rfl rfl) ?_
            refine GT_st_g rfl rfl rfl rfl rfl rfl rfl (V_isF (V_neq rfl rfl rfl) (by have := hrl.2 q4; omega)) ?_
            refine GT_st_g rfl rfl rfl rfl rfl rfl rfl (V_pick_t rfl rfl rfl) ?_
            refine GT_st rfl rfl rfl rfl (V_pick_f rfl rfl rfl) ?_
            refine GT_nil ?_
            refine GE_cond_f rfl ?_
            refine GE_skip ?_
            exact GE_to (hk () trivial) ⟨rfl, rfl, rfl, rfl, rfl, rfl, trivial⟩ (HS.chunk HS.last)
          · skip
            refine GT_skip rfl rfl rfl rfl rfl (by decide) rfl rfl ?_
            refine GT_skip rfl rfl rfl rfl rfl (by decide) rfl rfl ?_
            refine GT_skip rfl rfl rfl rfl rfl (by decide) rfl rfl ?_
            refine GT_skip rfl rfl rfl rfl rfl (by decide) rfl rfl ?_
            refine GT_st_g rfl rfl rfl rfl rfl rfl rfl (V_pick_f rfl rfl rfl) ?_
            refine GT_st rfl rfl rfl rfl (V_pick_f rfl rfl rfl) ?_
            refine GT_nil ?_
            refine GE_cond_f rfl ?_
            refine GE_skip ?_
            exact GE_to (hk () trivial) ⟨rfl, rfl, rfl, rfl, rfl, rfl, trivial⟩ (HS.chunk HS.last)
        · skip
          refine GT_skip rfl rfl rfl rfl rfl (by decide) rfl rfl ?_
          refine GT_skip rfl rfl rfl rfl rfl (by decide) rfl rfl ?_
          refine GT_st rfl rfl rfl rfl (V_pick_f rfl rfl rfl) ?_
          refine GT_st rfl rfl rfl rfl (V_move rfl rfl) ?_
          refine GT_st_g rfl rfl rfl rfl rfl rfl rfl (V_move rfl rfl) ?_
          refine GT_st_g rfl rfl rfl rfl rfl rfl rfl (V_eql rfl rfl rfl) ?_
          refine GT_st_g rfl rfl rfl rfl rfl rfl rfl (V_move rfl rfl) ?_
          first | refine GT_splitNot (d := 71) rfl (fun q4 => ?_) (fun q4 => ?_) | refine GT_split (d := 71) rfl (fun q4 => ?_) (fun q4 => ?_) | refine GT_splitNotB (d := 71) rfl (fun q4 => ?_) (fun q4 => ?_) | refine GT_splitB (d := 71) rfl (fun q4 => ?_) (fun q4 => ?_)
          · skip
            refine GT_st_g rfl rfl rfl rfl rfl rfl rfl (V_move rfl rfl) ?_
            refine GT_st_g rfl rfl rfl rfl rfl rfl rfl (V_len rfl Tryd.underlying22 rfl) ?_
            refine GT_st_g rfl rfl rfl rfl rfl rfl rfl (V_move rfl rfl) ?_
            refine GT_st_g rfl rfl rfl rfl rfl rfl rfl (V_isF (V_neq rfl rfl rfl) (by have := hrl.2 q4; omega)) ?_
            refine GT_st_g rfl rfl rfl rfl rfl rfl rfl (V_pick_t rfl rfl rfl) ?_
            refine GT_st rfl rfl rfl rfl (V_pick_f rfl rfl rfl) ?_
            refine GT_nil ?_
            refine GE_cond_f rfl ?_
            refine GE_skip ?_
            exact GE_to (hk () trivial) ⟨rfl, rfl, rfl, rfl, rfl, rfl, trivial⟩ (HS.chunk HS.last)
          · skip
            refine GT_skip rfl rfl rfl rfl rfl (by decide) rfl rfl ?_
            refine GT_skip rfl rfl rfl rfl rfl (by decide) rfl rfl ?_
            refine GT_skip rfl rfl rfl rfl rfl (by decide) rfl rfl ?_
            refine GT_skip rfl rfl rfl rfl rfl (by decide) rfl rfl ?_
            refine GT_st_g rfl rfl rfl rfl rfl rfl rfl (V_pick_f rfl rfl rfl) ?_
            refine GT_st rfl rfl rfl rfl (V_pick_f rfl rfl rfl) ?_
            refine GT_nil ?_
            refine GE_cond_f rfl ?_
            refine GE_skip ?_
            exact GE_to (hk () trivial) ⟨rfl, rfl, rfl, rfl, rfl, rfl, trivial⟩ (HS.chunk HS.last)
end
end Go.Proofs.YtnklkobhjdkblaaDoor

