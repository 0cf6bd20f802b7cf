/- The document's takes and programmes: which are valid; walked. -/
import Derived.Test.YtnklkobhjdkblaaDoorTa7
namespace Go.Proofs.YtnklkobhjdkblaaDoor
open Go.Sx Go.Proofs Go.RowKit

theorem nm_all {s : ByteArray} : s.data.toList.all nmB = true ↔ ∀ i, i < s.size → nmB (s.data.toList.getD i 0) = true := by
  have hl : s.data.toList.length = s.size := by rw [Array.length_toList]; rfl
  rw [List.all_eq_true]
  constructor
  · intro h i hi; rw [List.getD, List.getElem?_eq_getElem (by omega)]; exact h _ (List.getElem_mem _)
  · intro h x hx
    obtain ⟨i, hi, rfl⟩ := List.getElem_of_mem hx
    have := h i (by omega)
    rw [List.getD, List.getElem?_eq_getElem hi] at this
    exact this
theorem nmB_iff {b : UInt8} : nmB b = true ↔ (97 ≤ (b.toNat : Int) ∧ (b.toNat : Int) ≤ 122) ∨ (48 ≤ (b.toNat : Int) ∧ (b.toNat : Int) ≤ 57) := by
  unfold nmB; simp only [Bool.or_eq_true, Bool.and_eq_true, decide_eq_true_iff]; omega
theorem isNm_iff {s : ByteArray} : isNm s = true ↔ (1 ≤ s.size ∧ s.size ≤ 20) ∧ ∀ i, i < s.size → nmB (s.data.toList.getD i 0) = true := by
  unfold isNm; simp only [Bool.and_eq_true, decide_eq_true_iff]; rw [nm_all]
theorem lErr_two {l : List Tk} (h1 : 1 ≤ l.length ∧ l.length ≤ 16) (h6 : ∀ i, i < l.length → (l.getD i default).data.length ≤ 4096) {k : Nat} (hk : k < l.length) (h : tErr (l.getD k default) ≠ 0) : lErr l = 2 := by
  have n6 : ¬ l.any (fun t => decide (tErr t = 6)) = true := by
    rw [List.any_eq_true]; rintro ⟨t, ht, e⟩
    obtain ⟨i, hi, rfl⟩ := List.getElem_of_mem ht
    have := h6 i hi
    rw [decide_eq_true_iff, tErr_six] at e
    simp [List.getD, hi] at this; omega
  unfold lErr
  rw [if_neg (by omega), if_neg n6, if_pos (any_of hk (decide_eq_true h))]
theorem lErr_rest {l : List Tk} (h1 : 1 ≤ l.length ∧ l.length ≤ 16) (h0 : ∀ i, i < l.length → tErr (l.getD i default) = 0) : lErr l = if (l.map Tk.name).Nodup then 0 else 12 := by
  have all : ∀ t ∈ l, tErr t = 0 := by
    intro t ht
    obtain ⟨i, hi, rfl⟩ := List.getElem_of_mem ht
    have := h0 i hi
    simpa [List.getD, hi] using this
  have n6 : ¬ l.any (fun t => decide (tErr t = 6)) = true := by
    rw [List.any_eq_true]; rintro ⟨t, ht, e⟩
    have := all t ht
    rw [decide_eq_true_iff] at e; omega
  have n2 : ¬ l.any (fun t => decide (tErr t ≠ 0)) = true := by
    rw [List.any_eq_true]; rintro ⟨t, ht, e⟩
    have := all t ht
    rw [decide_eq_true_iff] at e; omega
  unfold lErr
  rw [if_neg (by omega), if_neg n6, if_neg n2]
theorem names_apart {l : List Tk} (h : ∀ i j, i < l.length → j < i → (l.getD i default).name ≠ (l.getD j default).name) : (l.map Tk.name).Nodup := by
  rw [List.Nodup, List.pairwise_iff_getElem]
  intro i j hi hj hij
  rw [List.length_map] at hi hj
  have := h j i hj hij
  simp [List.getD, hi, hj] at this
  simp only [List.getElem_map]
  exact fun e => this e.symm
theorem names_same {l : List Tk} {i j : Nat} (hi : i < l.length) (hj : j < i) (h : (l.getD i default).name = (l.getD j default).name) : ¬ (l.map Tk.name).Nodup := by
  rw [List.Nodup, List.pairwise_iff_getElem]
  intro hn
  have := hn j i (by rw [List.length_map]; omega) (by rw [List.length_map]; omega) hj
  simp [List.getD, hi, show j < l.length by omega] at h
  simp only [List.getElem_map] at this
  exact this h.symm
def bgns (p : List Prt) (n : Nat) : List Int := (List.range n).map fun i => bgn p i
theorem bgns_len (p : List Prt) (n : Nat) : (bgns p n).length = n := by simp [bgns]
theorem bgns_succ (p : List Prt) (n : Nat) : bgns p (n + 1) = bgns p n ++ [bgn p n] := by simp [bgns, List.range_succ]
theorem bgns_get {p : List Prt} {n i : Nat} (hi : i < n) : (bgns p n).getD i default = bgn p i := by simp [bgns, List.getD, hi]
theorem bgn_succ {p : List Prt} {i : Nat} (h0 : 0 < i) (hi : i < p.length) : bgn p i = en p (i - 1) + (pt p i).gap := by
  unfold bgn
  rw [← fin_take (i := i - 1) (by omega), show i - 1 + 1 = i by omega]
/-- valid parts, and what is known of their sums -/
structure Gd (l : List Tk) (p : List Prt) : Prop where
  tks : TksOk l
  most : p.length ≤ 32
  each : ∀ i, i < p.length → PrtOk l (pt p i)
theorem gd_fin {l : List Tk} {p : List Prt} (h : Gd l p) {k : Nat} (hk : k ≤ p.length) : -262144 ≤ fin (p.take k) ∧ fin (p.take k) ≤ 262144 := by
  have := fin_bd h.tks k hk (fun i hi => goodP_iff.2 (h.each i (by omega)))
  have := h.most; omega
theorem gd_prt {l : List Tk} {p : List Prt} (h : Gd l p) {i : Nat} (hi : i < p.length) : (-4096 ≤ (pt p i).gap ∧ (pt p i).gap ≤ 4096) ∧ (1 ≤ lng (pt p i) ∧ lng (pt p i) ≤ 4096) ∧ 0 ≤ (pt p i).fr ∧ (pt p i).to ≤ 4096 := by
  have h2 := h.each i hi
  have h3 := h2.frto
  have h4 := h2.fr0
  have h5 := h2.to1
  have h7 : (tkOf l (pt p i)).data.length ≤ 4096 := by
    have a := h2.tk0; have b := h2.tk1
    exact (tErr_zero.1 (h.tks.each _ (getD_mem (i := (pt p i).tk.toNat) (by omega)))).1
  refine ⟨h2.gap, ?_⟩
  unfold lng; omega
theorem gd_bgn {l : List Tk} {p : List Prt} (h : Gd l p) {i : Nat} (hi : i < p.length) : (-280000 ≤ bgn p i ∧ bgn p i ≤ 280000) ∧ (-280000 ≤ en p i ∧ en p i ≤ 280000) ∧ en p i = bgn p i + lng (pt p i) ∧ bgn p i = fin (p.take i) + (pt p i).gap := by
  have h1 := gd_fin h (k := i) (by omega)
  have h2 := gd_prt h hi
  refine ⟨?_, ?_, rfl, rfl⟩
  · unfold bgn; omega
  · unfold en bgn; omega
section
variable {w : World} {A A2 : Option Addr} {c c2 : Nat}
theorem C_rIsName {s : ByteArray} : Con0 Tryd.prog 72 [.string s] w (.bool (isNm s)) := by
  have no : ∀ {p : Prop}, ¬ ((1 ≤ s.size ∧ s.size ≤ 20) ∧ ∀ i, i < s.size → nmB (s.data.toList.getD i 0) = true) → isNm s = false := fun h => by rw [Bool.eq_false_iff]; exact fun e => h (isNm_iff.1 e)
  refine Ret_of (vs := [_]) hm none' Tryd.func72 rfl Tryd.ntmps72 rfl ?_
  dsimp only [slotsOf]
  refine GE_seq ?_
  refine GE_plain (.st 0 .nil) rfl ?_
  refine GT_st rfl rfl rfl rfl (V_assign rfl rfl) ?_
  refine GT_nil ?_
  refine GE_seq ?_
  refine GE_seq ?_
  refine GE_plain (.st 0 (.st 1 (.st 2 (.st 3 (.st 4 (.st 5 (.st 6 (.st 7 .nil)))))))) rfl ?_
  refine GT_st rfl rfl rfl rfl (V_move rfl rfl) ?_
  refine GT_st rfl rfl rfl rfl (V_len_str rfl Tryd.underlying9 rfl) ?_
  refine GT_st rfl rfl rfl rfl (V_lss rfl rfl rfl) ?_
  refine GT_st rfl rfl rfl rfl (V_move rfl rfl) ?_
  first | refine GT_splitNot (d := 7) rfl (fun h1 => ?_) (fun h1 => ?_) | refine GT_split (d := 7) rfl (fun h1 => ?_) (fun h1 => ?_) | refine GT_splitNotB (d := 7) rfl (fun h1 => ?_) (fun h1 => ?_) | refine GT_splitB (d := 7) rfl (fun h1 => ?_) (fun h1 => ?_)
  · skip
    refine GT_skip rfl rfl rfl rfl rfl (by decide) rfl rfl ?_
    refine GT_skip rfl rfl rfl rfl rfl (by decide) rfl rfl ?_
    refine GT_skip rfl rfl rfl rfl rfl (by decide) rfl rfl ?_
    refine GT_st rfl rfl rfl rfl (V_pick_t rfl rfl rfl) ?_
    refine GT_nil ?_
    refine GE_cond_t rfl ?_
    refine GE_seq ?_
    refine GE_slots (L' := []) trivial ?_
    refine GE_plain (.st 0 .nil) rfl ?_
    refine GT_st rfl rfl rfl rfl (V_assign rfl rfl) ?_
    refine GT_nil ?_
    refine GE_ret Tryd.func72 rfl (fun w hw => ⟨?_, hw.nil⟩)
    first | (rw [no (p := True) (by omega)]; done) | rw [no (p := True) (fun e => by have := nmB_iff.1 (e.2 k hkl); omega)]
  · skip
    refine GT_st_g rfl rfl rfl rfl rfl rfl rfl (V_move rfl rfl) ?_
    refine GT_st_g rfl rfl rfl rfl rfl rfl rfl (V_len_str rfl Tryd.underlying9 rfl) ?_
    refine GT_st_g rfl rfl rfl rfl rfl rfl rfl (V_gtr rfl rfl rfl) ?_
    refine GT_st rfl rfl rfl rfl (V_pick_f rfl rfl rfl) ?_
    refine GT_nil ?_
    first | refine GE_condNot rfl (fun q1 => ?_) (fun q1 => ?_) | refine GE_cond rfl (fun q1 => ?_) (fun q1 => ?_) | refine GE_condNotB rfl (fun q1 => ?_) (fun q1 => ?_) | refine GE_condB rfl (fun q1 => ?_) (fun q1 => ?_)
    · skip
      refine GE_seq ?_
      refine GE_slots (L' := []) trivial ?_
      refine GE_plain (.st 0 .nil) rfl ?_
      refine GT_st rfl rfl rfl rfl (V_assign rfl rfl) ?_
      refine GT_nil ?_
      refine GE_ret Tryd.func72 rfl (fun w hw => ⟨?_, hw.nil⟩)
      rw [no (p := True) (by omega)]
    · skip
      refine GE_skip ?_
      refine GE_seq ?_
      refine GE_seq ?_
      refine GE_slots (L' := [(0, _)]) ⟨rfl, trivial⟩ ?_
      refine GE_plain (.st 0 .nil) rfl ?_
      refine GT_st rfl rfl rfl rfl (V_assign rfl rfl) ?_
      refine GT_nil ?_
      refine GE_block ?_
      refine GE_to (GE_loop (ι := Nat) (fun k => s.size - k) (fun k => [(0, .string s), (3, I k)]) (fun k => []) (fun k => k ≤ s.size ∧ ∀ i, i < k → nmB (s.data.toList.getD i 0) = true) ?_ 0 ?_) ⟨rfl, rfl, trivial⟩ HS.nil
      · rintro k ⟨hk, hall⟩ ih
        refine GE_seq ?_
        refine GE_seq ?_
        refine GE_plain (.st 0 (.st 1 (.st 2 (.st 3 .nil)))) rfl ?_
        refine GT_st rfl rfl rfl rfl (V_move rfl rfl) ?_
        refine GT_st rfl rfl rfl rfl (V_move rfl rfl) ?_
        refine GT_st rfl rfl rfl rfl (V_len_str rfl Tryd.underlying9 rfl) ?_
        refine GT_st rfl rfl rfl rfl (V_lss rfl rfl rfl) ?_
        refine GT_nil ?_
        first | refine GE_condNot rfl (fun q2 => ?_) (fun q2 => ?_) | refine GE_cond rfl (fun q2 => ?_) (fun q2 => ?_) | refine GE_condNotB rfl (fun q2 => ?_) (fun q2 => ?_) | refine GE_condB rfl (fun q2 => ?_) (fun q2 => ?_)
        · have hkl : k < s.size := (by omega)
          refine GE_skip ?_
          refine GE_seq ?_
          refine GE_block ?_
          refine GE_seq ?_
          refine GE_slots (L' := [(0, _), (3, _)]) ⟨rfl, rfl, trivial⟩ ?_
          refine GE_plain (.st 0 (.st 1 (.st 2 (.st 3 (.st 4 (.st 5 (.st 6 (.st 7 (.st 8 (.st 9 (.st 10 (.st 11 (.st 12 (.st 13 (.st 14 (.st 15 (.st 16 (.st 17 (.st 18 (.st 19 (.st 20 (.st 21 (.st 22 (.st 23 .nil)))))))))))))))))))))))) rfl ?_
          refine GT_st rfl rfl rfl rfl (V_move rfl rfl) ?_
          refine GT_st rfl rfl rfl rfl (V_move rfl rfl) ?_
          refine GT_st rfl rfl rfl rfl (V_indexStr rfl rfl rfl Tryd.underlying9 rfl (by omega)) ?_
          refine GT_st rfl rfl rfl rfl (V_geq rfl rfl rfl) ?_
          refine GT_st rfl rfl rfl rfl (V_move rfl rfl) ?_
          first | refine GT_splitNot (d := 22) rfl (fun q3 => ?_) (fun q3 => ?_) | refine GT_split (d := 22) rfl (fun q3 => ?_) (fun q3 => ?_) | refine GT_splitNotB (d := 22) rfl (fun q3 => ?_) (fun q3 => ?_) | refine GT_splitB (d := 22) rfl (fun q3 => ?_) (fun q3 => ?_)
          · skip
            refine GT_st_g rfl rfl rfl rfl rfl rfl rfl (V_move rfl rfl) ?_
            refine GT_st_g rfl rfl rfl rfl rfl rfl rfl (V_move rfl rfl) ?_
            refine GT_st_g rfl rfl rfl rfl rfl rfl rfl (V_indexStr rfl rfl rfl Tryd.underlying9 rfl (by omega)) ?_
            refine GT_st_g rfl rfl rfl rfl rfl rfl rfl (V_leq rfl rfl rfl) ?_
            refine GT_st rfl rfl rfl rfl (V_pick_t rfl rfl rfl) ?_
            first | refine GT_st rfl rfl rfl rfl (V_not rfl rfl) ?_ | refine GT_st rfl rfl rfl rfl (V_notB rfl rfl) ?_
            refine GT_st rfl rfl rfl rfl (V_move rfl rfl) ?_
            first | refine GT_splitNot (d := 29) rfl (fun q4 => ?_) (fun q4 => ?_) | refine GT_split (d := 29) rfl (fun q4 => ?_) (fun q4 => ?_) | refine GT_splitNotB (d := 29) rfl (fun q4 => ?_) (fun q4 => ?_) | refine GT_splitB (d := 29) rfl (fun q4 => ?_) (fun q4 => ?_)
            · skip
              refine GT_st_g rfl rfl rfl rfl rfl rfl rfl (V_move rfl rfl) ?_
              refine GT_st_g rfl rfl rfl rfl rfl rfl rfl (V_move rfl rfl) ?_
              refine GT_st_g rfl rfl rfl rfl rfl rfl rfl (V_indexStr rfl rfl rfl Tryd.underlying9 rfl (by omega)) ?_
              refine GT_st_g rfl rfl rfl rfl rfl rfl rfl (V_geq rfl rfl rfl) ?_
              refine GT_st_g rfl rfl rfl rfl rfl rfl rfl (V_move rfl rfl) ?_
              first | refine GT_splitNot (d := 34) rfl (fun q5 => ?_) (fun q5 => ?_) | refine GT_split (d := 34) rfl (fun q5 => ?_) (fun q5 => ?_) | refine GT_splitNotB (d := 34) rfl (fun q5 => ?_) (fun q5 => ?_) | refine GT_splitB (d := 34) rfl (fun q5 => ?_) (fun q5 => ?_)
              · skip
                refine GT_st_g rfl rfl rfl rfl rfl rfl rfl (V_move rfl rfl) ?_
                refine GT_st_g rfl rfl rfl rfl rfl rfl rfl (V_move rfl rfl) ?_
                refine GT_st_g rfl rfl rfl rfl rfl rfl rfl (V_indexStr rfl rfl rfl Tryd.underlying9 rfl (by omega)) ?_
                refine GT_st_g rfl rfl rfl rfl rfl rfl rfl (V_leq rfl rfl rfl) ?_
                refine GT_st_g rfl rfl rfl rfl rfl rfl rfl (V_pick_t rfl rfl rfl) ?_
                first | refine GT_st_g rfl rfl rfl rfl rfl rfl rfl (V_not rfl rfl) ?_ | refine GT_st_g rfl rfl rfl rfl rfl rfl rfl (V_notB rfl rfl) ?_
                refine GT_st rfl rfl rfl rfl (V_pick_t rfl rfl rfl) ?_
                refine GT_nil ?_
                first | refine GE_condNot rfl (fun q6 => ?_) (fun q6 => ?_) | refine GE_cond rfl (fun q6 => ?_) (fun q6 => ?_) | refine GE_condNotB rfl (fun q6 => ?_) (fun q6 => ?_) | refine GE_condB rfl (fun q6 => ?_) (fun q6 => ?_)
                · skip
                  refine GE_seq ?_
                  refine GE_slots (L' := []) trivial ?_
                  refine GE_plain (.st 0 .nil) rfl ?_
                  refine GT_st rfl rfl rfl rfl (V_assign rfl rfl) ?_
                  refine GT_nil ?_
                  refine GE_ret Tryd.func72 rfl (fun w hw => ⟨?_, hw.nil⟩)
                  rw [no (p := True) (fun e => by have := nmB_iff.1 (e.2 k hkl); omega)]
                · skip
                  refine GE_skip ?_
                  refine GE_inBlock ?_
                  refine GE_slots (L' := [(0, _), (3, _), (23, _), (24, _), (25, _), (26, _), (30, _), (31, _), (32, _), (33, _), (34, _), (35, _), (36, _), (37, _), (38, _), (39, _), (40, _)]) ⟨rfl, rfl, rfl, rfl, rfl, rfl, rfl, rfl, rfl, rfl, rfl, rfl, rfl, rfl, rfl, rfl, rfl, trivial⟩ ?_
                  refine GE_plain (.st 0 (.st 1 (.ld 2 [] .nil))) rfl ?_
                  refine GT_st rfl rfl rfl rfl (V_move rfl rfl) ?_
                  refine GT_st rfl rfl rfl rfl (V_add rfl rfl rfl (wrap_i64 (by omega))) ?_
                  refine GT_ldv rfl rfl rfl rfl rfl (V_assign rfl rfl) (GR_nil) ?_
                  refine GT_nil ?_
                  exact GE_to (ih (k + 1) ⟨by omega, fun i hi => by rcases Nat.lt_or_ge i k with r | r; exact hall i r; rw [show i = k by omega]; exact nmB_iff.2 (by omega)⟩ (by omega)) ⟨rfl, rfl, trivial⟩ HS.nil
              · skip
                refine GT_skip rfl rfl rfl rfl rfl (by decide) rfl rfl ?_
                refine GT_skip rfl rfl rfl rfl rfl (by decide) rfl rfl ?_
                refine GT_skip rfl rfl rfl rfl rfl (by decide) rfl rfl ?_
                refine GT_skip rfl rfl rfl rfl rfl (by decide) rfl rfl ?_
                refine GT_st_g rfl rfl rfl rfl rfl rfl rfl (V_pick_f rfl rfl rfl) ?_
                first | refine GT_st_g rfl rfl rfl rfl rfl rfl rfl (V_not rfl rfl) ?_ | refine GT_st_g rfl rfl rfl rfl rfl rfl rfl (V_notB rfl rfl) ?_
                refine GT_st rfl rfl rfl rfl (V_pick_t rfl rfl rfl) ?_
                refine GT_nil ?_
                refine GE_cond_t rfl ?_
                refine GE_seq ?_
                refine GE_slots (L' := []) trivial ?_
                refine GE_plain (.st 0 .nil) rfl ?_
                refine GT_st rfl rfl rfl rfl (V_assign rfl rfl) ?_
                refine GT_nil ?_
                refine GE_ret Tryd.func72 rfl (fun w hw => ⟨?_, hw.nil⟩)
                first | (rw [no (p := True) (by omega)]; done) | rw [no (p := True) (fun e => by have := nmB_iff.1 (e.2 k hkl); omega)]
            · skip
              refine GT_skip rfl rfl rfl rfl rfl (by decide) rfl rfl ?_
              refine GT_skip rfl rfl rfl rfl rfl (by decide) rfl rfl ?_
              refine GT_skip rfl rfl rfl rfl rfl (by decide) rfl rfl ?_
              refine GT_skip rfl rfl rfl rfl rfl (by decide) rfl rfl ?_
              refine GT_skip rfl rfl rfl rfl rfl (by decide) rfl rfl ?_
              refine GT_skip rfl rfl rfl rfl rfl (by decide) rfl rfl ?_
              refine GT_skip rfl rfl rfl rfl rfl (by decide) rfl rfl ?_
              refine GT_skip rfl rfl rfl rfl rfl (by decide) rfl rfl ?_
              refine GT_skip rfl rfl rfl rfl rfl (by decide) rfl rfl ?_
              refine GT_skip rfl rfl rfl rfl rfl (by decide) rfl rfl ?_
              refine GT_skip rfl rfl rfl rfl rfl (by decide) rfl rfl ?_
              refine GT_st rfl rfl rfl rfl (V_pick_f rfl rfl rfl) ?_
              refine GT_nil ?_
              refine GE_cond_f rfl ?_
              refine GE_skip ?_
              refine GE_inBlock ?_
              refine GE_slots (L' := [(0, _), (3, _), (23, _), (24, _), (25, _), (26, _), (30, _), (31, _), (32, _), (33, _), (34, _), (35, _), (36, _), (37, _), (38, _), (39, _), (40, _)]) ⟨rfl, rfl, rfl, rfl, rfl, rfl, rfl, rfl, rfl, rfl, rfl, rfl, rfl, rfl, rfl, rfl, rfl, trivial⟩ ?_
              refine GE_plain (.st 0 (.st 1 (.ld 2 [] .nil))) rfl ?_
              refine GT_st rfl rfl rfl rfl (V_move rfl rfl) ?_
              refine GT_st rfl rfl rfl rfl (V_add rfl rfl rfl (wrap_i64 (by omega))) ?_
              refine GT_ldv rfl rfl rfl rfl rfl (V_assign rfl rfl) (GR_nil) ?_
              refine GT_nil ?_
              exact GE_to (ih (k + 1) ⟨by omega, fun i hi => by rcases Nat.lt_or_ge i k with r | r; exact hall i r; rw [show i = k by omega]; exact nmB_iff.2 (by omega)⟩ (by omega)) ⟨rfl, rfl, trivial⟩ HS.nil
          · skip
            refine GT_skip rfl rfl rfl rfl rfl (by decide) rfl rfl ?_
            refine GT_skip rfl rfl rfl rfl rfl (by decide) rfl rfl ?_
            refine GT_skip rfl rfl rfl rfl rfl (by decide) rfl rfl ?_
            refine GT_skip rfl rfl rfl rfl rfl (by decide) rfl rfl ?_
            refine GT_st rfl rfl rfl rfl (V_pick_f rfl rfl rfl) ?_
            first | refine GT_st rfl rfl rfl rfl (V_not rfl rfl) ?_ | refine GT_st rfl rfl rfl rfl (V_notB rfl rfl) ?_
            refine GT_st rfl rfl rfl rfl (V_move rfl rfl) ?_
            refine GT_st_g rfl rfl rfl rfl rfl rfl rfl (V_move rfl rfl) ?_
            refine GT_st_g rfl rfl rfl rfl rfl rfl rfl (V_move rfl rfl) ?_
            refine GT_st_g rfl rfl rfl rfl rfl rfl rfl (V_indexStr rfl rfl rfl Tryd.underlying9 rfl (by omega)) ?_
            refine GT_st_g rfl rfl rfl rfl rfl rfl rfl (V_geq rfl rfl rfl) ?_
            refine GT_st_g rfl rfl rfl rfl rfl rfl rfl (V_move rfl rfl) ?_
            first | refine GT_splitNot (d := 34) rfl (fun q5 => ?_) (fun q5 => ?_) | refine GT_split (d := 34) rfl (fun q5 => ?_) (fun q5 => ?_) | refine GT_splitNotB (d := 34) rfl (fun q5 => ?_) (fun q5 => ?_) | refine GT_splitB (d := 34) rfl (fun q5 => ?_) (fun q5 => ?_)
            · skip
              refine GT_st_g rfl rfl rfl rfl rfl rfl rfl (V_move rfl rfl) ?_
              refine GT_st_g rfl rfl rfl rfl rfl rfl rfl (V_move rfl rfl) ?_
              refine GT_st_g rfl rfl rfl rfl rfl rfl rfl (V_indexStr rfl rfl rfl Tryd.underlying9 rfl (by omega)) ?_
              refine GT_st_g rfl rfl rfl rfl rfl rfl rfl (V_leq rfl rfl rfl) ?_
              refine GT_st_g rfl rfl rfl rfl rfl rfl rfl (V_pick_t rfl rfl rfl) ?_
              first | refine GT_st_g rfl rfl rfl rfl rfl rfl rfl (V_not rfl rfl) ?_ | refine GT_st_g rfl rfl rfl rfl rfl rfl rfl (V_notB rfl rfl) ?_
              refine GT_st rfl rfl rfl rfl (V_pick_t rfl rfl rfl) ?_
              refine GT_nil ?_
              first | refine GE_condNot rfl (fun q6 => ?_) (fun q6 => ?_) | refine GE_cond rfl (fun q6 => ?_) (fun q6 => ?_) | refine GE_condNotB rfl (fun q6 => ?_) (fun q6 => ?_) | refine GE_condB rfl (fun q6 => ?_) (fun q6 => ?_)
              · skip
                refine GE_seq ?_
                refine GE_slots (L' := []) trivial ?_
                refine GE_plain (.st 0 .nil) rfl ?_
                refine GT_st rfl rfl rfl rfl (V_assign rfl rfl) ?_
                refine GT_nil ?_
                refine GE_ret Tryd.func72 rfl (fun w hw => ⟨?_, hw.nil⟩)
                rw [no (p := True) (fun e => by have := nmB_iff.1 (e.2 k hkl); omega)]
              · skip
                refine GE_skip ?_
                refine GE_inBlock ?_
                refine GE_slots (L' := [(0, _), (3, _), (23, _), (24, _), (25, _), (26, _), (30, _), (31, _), (32, _), (33, _), (34, _), (35, _), (36, _), (37, _), (38, _), (39, _), (40, _)]) ⟨rfl, rfl, rfl, rfl, rfl, rfl, rfl, rfl, rfl, rfl, rfl, rfl, rfl, rfl, rfl, rfl, rfl, trivial⟩ ?_
                refine GE_plain (.st 0 (.st 1 (.ld 2 [] .nil))) rfl ?_
                refine GT_st rfl rfl rfl rfl (V_move rfl rfl) ?_
                refine GT_st rfl rfl rfl rfl (V_add rfl rfl rfl (wrap_i64 (by omega))) ?_
                refine GT_ldv rfl rfl rfl rfl rfl (V_assign rfl rfl) (GR_nil) ?_
                refine GT_nil ?_
                exact GE_to (ih (k + 1) ⟨by omega, fun i hi => by rcases Nat.lt_or_ge i k with r | r; exact hall i r; rw [show i = k by omega]; exact nmB_iff.2 (by omega)⟩ (by omega)) ⟨rfl, rfl, trivial⟩ HS.nil
            · skip
              refine GT_skip rfl rfl rfl rfl rfl (by decide) rfl rfl ?_
              refine GT_skip rfl rfl rfl rfl rfl (by decide) rfl rfl ?_
              refine GT_skip rfl rfl rfl rfl rfl (by decide) rfl rfl ?_
              refine GT_skip rfl rfl rfl rfl rfl (by decide) rfl rfl ?_
              refine GT_st_g rfl rfl rfl rfl rfl rfl rfl (V_pick_f rfl rfl rfl) ?_
              first | refine GT_st_g rfl rfl rfl rfl rfl rfl rfl (V_not rfl rfl) ?_ | refine GT_st_g rfl rfl rfl rfl rfl rfl rfl (V_notB rfl rfl) ?_
              refine GT_st rfl rfl rfl rfl (V_pick_t rfl rfl rfl) ?_
              refine GT_nil ?_
              refine GE_cond_t rfl ?_
              refine GE_seq ?_
              refine GE_slots (L' := []) trivial ?_
              refine GE_plain (.st 0 .nil) rfl ?_
              refine GT_st rfl rfl rfl rfl (V_assign rfl rfl) ?_
              refine GT_nil ?_
              refine GE_ret Tryd.func72 rfl (fun w hw => ⟨?_, hw.nil⟩)
              first | (rw [no (p := True) (by omega)]; done) | rw [no (p := True) (fun e => by have := nmB_iff.1 (e.2 k hkl); omega)]
        · skip
          refine GE_exit rfl ?_
          refine GE_seq ?_
          refine GE_slots (L' := []) trivial ?_
          refine GE_plain (.st 0 .nil) rfl ?_
          refine GT_st rfl rfl rfl rfl (V_assign rfl rfl) ?_
          refine GT_nil ?_
          refine GE_ret Tryd.func72 rfl (fun w hw => ⟨?_, hw.nil⟩)
          rw [isNm_iff.2 ⟨⟨by omega, by omega⟩, fun i hi => hall i (by omega)⟩]
      · exact ⟨Nat.zero_le _, fun i hi => absurd hi (Nat.not_lt_zero _)⟩
theorem C_rtake {t : Tk} (h : RdL w 2 eSam t.A t.data) (hs : ∀ x ∈ t.data, x.wf) : Con0 Tryd.prog 61 [.agg #[.string t.name, .slice t.A t.data.length t.c]] w (I (tErr t)) := by
  refine Ret_of (vs := [_]) hm none' Tryd.func61 rfl Tryd.ntmps61 rfl ?_
  dsimp only [slotsOf]
  refine GE_seq ?_
  refine GE_plain (.ld 0 [] (.st 1 .nil)) rfl ?_
  refine GT_box (z := [_, _]) rfl rfl rfl rfl rfl rfl rfl (fun _ => GR_nil) (fun b1 => ?_)
  refine GT_st rfl rfl rfl rfl (V_assign rfl rfl) ?_
  refine GT_nil ?_
  refine GE_seq ?_
  refine GE_seq ?_
  refine GE_plain (.st 0 (.st 1 (.st 2 (.st 3 .nil)))) rfl ?_
  first | refine GT_st rfl rfl rfl rfl (V_field rfl rfl fo_27_1) ?_ | refine GT_st rfl rfl rfl rfl (V_fieldA rfl rfl fo_27_1) ?_
  refine GT_st rfl rfl rfl rfl (V_load rfl rfl ag_22 (CellAt.item rfl)) ?_
  refine GT_st rfl rfl rfl rfl (V_len rfl Tryd.underlying22 rfl) ?_
  refine GT_st rfl rfl rfl rfl (V_gtr rfl rfl rfl) ?_
  refine GT_nil ?_
  first | refine GE_condNot rfl (fun q1 => ?_) (fun q1 => ?_) | refine GE_cond rfl (fun q1 => ?_) (fun q1 => ?_) | refine GE_condNotB rfl (fun q1 => ?_) (fun q1 => ?_) | refine GE_condB rfl (fun q1 => ?_) (fun q1 => ?_)
  · skip
    refine GE_seq ?_
    refine GE_slots (L' := []) trivial ?_
    refine GE_plain (.st 0 .nil) rfl ?_
    refine GT_st rfl rfl rfl rfl (V_assign rfl rfl) ?_
    refine GT_nil ?_
    refine GE_ret Tryd.func61 rfl (fun w hw => ⟨?_, hw.nil⟩)
    rw [tErr, if_pos (by omega)]
  · skip
    refine GE_skip ?_
    refine GE_seq ?_
    refine GE_seq ?_
    refine GE_slots (L' := [(1, _)]) ⟨rfl, trivial⟩ ?_
    refine GE_plain (.st 0 (.st 1 (.ld 2 [] (.st 3 (.st 4 (.st 5 (.st 6 (.st 7 (.st 8 (.st 9 .nil)))))))))) rfl ?_
    first | refine GT_st rfl rfl rfl rfl (V_field rfl rfl fo_27_0) ?_ | refine GT_st rfl rfl rfl rfl (V_fieldA rfl rfl fo_27_0) ?_
    refine GT_st rfl rfl rfl rfl (V_load rfl rfl ag_9 (CellAt.item rfl)) ?_
    refine GT_call0 rfl rfl rfl rfl rfl rfl rfl rfl rn_72 (fun w hw => C_rIsName) (GR_nil) ?_
    first | refine GT_st rfl rfl rfl rfl (V_not rfl rfl) ?_ | refine GT_st rfl rfl rfl rfl (V_notB rfl rfl) ?_
    refine GT_st rfl rfl rfl rfl (V_move rfl rfl) ?_
    first | refine GT_splitNot (d := 11) rfl (fun q2 => ?_) (fun q2 => ?_) | refine GT_split (d := 11) rfl (fun q2 => ?_) (fun q2 => ?_) | refine GT_splitNotB (d := 11) rfl (fun q2 => ?_) (fun q2 => ?_) | refine GT_splitB (d := 11) rfl (fun q2 => ?_) (fun q2 => ?_)
    · skip
      refine GT_skip rfl rfl rfl rfl rfl (by decide) rfl rfl ?_
      refine GT_skip rfl rfl rfl rfl rfl (by decide) rfl rfl ?_
      refine GT_skip rfl rfl rfl rfl rfl (by decide) rfl rfl ?_
      refine GT_skip rfl rfl rfl rfl rfl (by decide) rfl rfl ?_
      refine GT_st rfl rfl rfl rfl (V_pick_t rfl rfl rfl) ?_
      refine GT_nil ?_
      refine GE_cond_t rfl ?_
      refine GE_seq ?_
      refine GE_slots (L' := []) trivial ?_
      refine GE_plain (.st 0 .nil) rfl ?_
      refine GT_st rfl rfl rfl rfl (V_assign rfl rfl) ?_
      refine GT_nil ?_
      refine GE_ret Tryd.func61 rfl (fun w hw => ⟨?_, hw.nil⟩)
      first | (have hn : ¬ 4096 < t.data.length := (by omega); have hz : t.data.length ≠ 0 := (by omega); refine congrArg I ?_; unfold sErr tErr; rw [if_neg hn, if_neg hn, q2]; simp [hz]; done) | (refine congrArg I (Eq.symm ?_); rw [tErr, if_neg (by omega), if_neg]; rw [q2]; simp)
    · skip
      first | refine GT_st_g rfl rfl rfl rfl rfl rfl rfl (V_field rfl rfl fo_27_1) ?_ | refine GT_st_g rfl rfl rfl rfl rfl rfl rfl (V_fieldA rfl rfl fo_27_1) ?_
      refine GT_st_g rfl rfl rfl rfl rfl rfl rfl (V_load rfl rfl ag_22 (CellAt.item rfl)) ?_
      refine GT_st_g rfl rfl rfl rfl rfl rfl rfl (V_len rfl Tryd.underlying22 rfl) ?_
      refine GT_st_g rfl rfl rfl rfl rfl rfl rfl (V_eql rfl rfl rfl) ?_
      refine GT_st rfl rfl rfl rfl (V_pick_f rfl rfl rfl) ?_
      refine GT_nil ?_
      first | refine GE_condNot rfl (fun q3 => ?_) (fun q3 => ?_) | refine GE_cond rfl (fun q3 => ?_) (fun q3 => ?_) | refine GE_condNotB rfl (fun q3 => ?_) (fun q3 => ?_) | refine GE_condB rfl (fun q3 => ?_) (fun q3 => ?_)
      · skip
        refine GE_seq ?_
        refine GE_slots (L' := []) trivial ?_
        refine GE_plain (.st 0 .nil) rfl ?_
        refine GT_st rfl rfl rfl rfl (V_assign rfl rfl) ?_
        refine GT_nil ?_
        refine GE_ret Tryd.func61 rfl (fun w hw => ⟨?_, hw.nil⟩)
        refine congrArg I (Eq.symm ?_); rw [tErr, if_neg (by omega), if_neg]; rw [Bool.and_eq_true, Bool.and_eq_true, decide_eq_true_iff]; rintro ⟨⟨_, hh⟩, _⟩; omega
      · skip
        refine GE_skip ?_
        refine GE_seq ?_
        refine GE_slots (L' := [(1, _)]) ⟨rfl, trivial⟩ ?_
        refine GE_plain (.st 0 (.st 1 (.ld 2 [] (.st 3 .nil)))) rfl ?_
        first | refine GT_st rfl rfl rfl rfl (V_field rfl rfl fo_27_1) ?_ | refine GT_st rfl rfl rfl rfl (V_fieldA rfl rfl fo_27_1) ?_
        refine GT_st rfl rfl rfl rfl (V_load rfl rfl ag_22 (CellAt.item rfl)) ?_
        refine GT_call0 rfl rfl rfl rfl rfl rfl rfl rfl rn_15 (fun w hw => C_rCheckSamples (h.sh hw) hs) (GR_nil) ?_
        refine GT_st rfl rfl rfl rfl (V_assign rfl rfl) ?_
        refine GT_nil ?_
        refine GE_ret Tryd.func61 rfl (fun w hw => ⟨?_, hw.nil⟩)
        first | (have hn : ¬ 4096 < t.data.length := (by omega); have hz : t.data.length ≠ 0 := (by omega); refine congrArg I ?_; unfold sErr tErr; rw [if_neg hn, if_neg hn, q2]; simp [hz]; done) | (refine congrArg I (Eq.symm ?_); rw [tErr, if_neg (by omega), if_neg]; rw [q2]; simp)
set_option maxRecDepth 10000 in
theorem C_rCheckTakes {l : List Tk} (h : Tks w A l) : Con0 Tryd.prog 38 [.slice A l.length c] w (I (lErr l)) := by
  refine Ret_of (vs := [_]) hm none' Tryd.func38 rfl Tryd.ntmps38 rfl ?_
  dsimp only [slotsOf]
  refine GE_seq ?_
  refine GE_plain (.st 0 .nil) rfl ?_
  refine GT_st rfl rfl rfl rfl (V_assign rfl rfl) ?_
  refine GT_nil ?_
  refine GE_seq ?_
  refine GE_seq ?_
  refine GE_plain (.st 0 (.st 1 (.st 2 (.st 3 (.st 4 (.st 5 (.st 6 (.st 7 .nil)))))))) rfl ?_
  refine GT_st rfl rfl rfl rfl (V_move rfl rfl) ?_
  refine GT_st rfl rfl rfl rfl (V_len rfl Tryd.underlying28 rfl) ?_
  refine GT_st rfl rfl rfl rfl (V_lss rfl rfl rfl) ?_
  refine GT_st rfl rfl rfl rfl (V_move rfl rfl) ?_
  first | refine GT_splitNot (d := 10) rfl (fun h1 => ?_) (fun h1 => ?_) | refine GT_split (d := 10) rfl (fun h1 => ?_) (fun h1 => ?_) | refine GT_splitNotB (d := 10) rfl (fun h1 => ?_) (fun h1 => ?_) | refine GT_splitB (d := 10) rfl (fun h1 => ?_) (fun h1 => ?_)
  · skip
    refine GT_skip rfl rfl rfl rfl rfl (by decide) rfl rfl ?_
    refine GT_skip rfl rfl rfl rfl rfl (by decide) rfl rfl ?_
    refine GT_skip rfl rfl rfl rfl rfl (by decide) rfl rfl ?_
    refine GT_st rfl rfl rfl rfl (V_pick_t rfl rfl rfl) ?_
    refine GT_nil ?_
    refine GE_cond_t rfl ?_
    refine GE_seq ?_
    refine GE_slots (L' := []) trivial ?_
    refine GE_plain (.st 0 .nil) rfl ?_
    refine GT_st rfl rfl rfl rfl (V_assign rfl rfl) ?_
    refine GT_nil ?_
    refine GE_ret Tryd.func38 rfl (fun w hw => ⟨?_, hw.nil⟩)
    rw [lErr, if_pos (by omega)]
  · skip
    refine GT_st_g rfl rfl rfl rfl rfl rfl rfl (V_move rfl rfl) ?_
    refine GT_st_g rfl rfl rfl rfl rfl rfl rfl (V_len rfl Tryd.underlying28 rfl) ?_
    refine GT_st_g rfl rfl rfl rfl rfl rfl rfl (V_gtr rfl rfl rfl) ?_
    refine GT_st rfl rfl rfl rfl (V_pick_f rfl rfl rfl) ?_
    refine GT_nil ?_
    first | refine GE_condNot rfl (fun q1 => ?_) (fun q1 => ?_) | refine GE_cond rfl (fun q1 => ?_) (fun q1 => ?_) | refine GE_condNotB rfl (fun q1 => ?_) (fun q1 => ?_) | refine GE_condB rfl (fun q1 => ?_) (fun q1 => ?_)
    · skip
      refine GE_seq ?_
      refine GE_slots (L' := []) trivial ?_
      refine GE_plain (.st 0 .nil) rfl ?_
      refine GT_st rfl rfl rfl rfl (V_assign rfl rfl) ?_
      refine GT_nil ?_
      refine GE_ret Tryd.func38 rfl (fun w hw => ⟨?_, hw.nil⟩)
      rw [lErr, if_pos (by omega)]
    · skip
      refine GE_skip ?_
      refine GE_seq ?_
      refine GE_seq ?_
      refine GE_slots (L' := [(0, _)]) ⟨rfl, trivial⟩ ?_
      refine GE_plain (.st 0 .nil) rfl ?_
      refine GT_st rfl rfl rfl rfl (V_assign rfl rfl) ?_
      refine GT_nil ?_
      refine GE_block ?_
      refine GE_to (GE_loop (ι := Nat) (fun k => l.length - k) (fun k => [(0, .slice A l.length c), (3, I k)]) (fun k => []) (fun k => k ≤ l.length ∧ ∀ i, i < k → (l.getD i default).data.length ≤ 4096) ?_ 0 ?_) ⟨rfl, rfl, trivial⟩ HS.nil
      · rintro k ⟨hk, h6⟩ ih
        refine GE_seq ?_
        refine GE_seq ?_
        refine GE_plain (.st 0 (.st 1 (.st 2 (.st 3 .nil)))) rfl ?_
        refine GT_st rfl rfl rfl rfl (V_move rfl rfl) ?_
        refine GT_st rfl rfl rfl rfl (V_move rfl rfl) ?_
        refine GT_st rfl rfl rfl rfl (V_len rfl Tryd.underlying28 rfl) ?_
        refine GT_st rfl rfl rfl rfl (V_lss rfl rfl rfl) ?_
        refine GT_nil ?_
        first | refine GE_condNot rfl (fun q2 => ?_) (fun q2 => ?_) | refine GE_cond rfl (fun q2 => ?_) (fun q2 => ?_) | refine GE_condNotB rfl (fun q2 => ?_) (fun q2 => ?_) | refine GE_condB rfl (fun q2 => ?_) (fun q2 => ?_)
        · have hkl : k < l.length := (by omega)
          refine GE_skip ?_
          refine GE_seq ?_
          refine GE_block ?_
          refine GE_seq ?_
          refine GE_slots (L' := [(0, _), (3, _)]) ⟨rfl, rfl, trivial⟩ ?_
          refine GE_plain (.st 0 (.st 1 (.st 2 (.st 3 (.st 4 (.st 5 (.st 6 .nil))))))) rfl ?_
          refine GT_st rfl rfl rfl rfl (V_move rfl rfl) ?_
          refine GT_st rfl rfl rfl rfl (V_move rfl rfl) ?_
          refine GT_st rfl rfl rfl rfl (V_index rfl rfl rfl Tryd.underlying28 sz_27 (k := k) rfl hkl (h.1.isSome hkl)) ?_
          first | refine GT_st rfl rfl rfl rfl (V_field rfl rfl fo_27_1) ?_ | refine GT_st rfl rfl rfl rfl (V_fieldA rfl rfl fo_27_1) ?_
          refine GT_st rfl rfl rfl rfl (V_load rfl rfl ag_22 (h.1.at1 noM hkl rfl)) ?_
          refine GT_st rfl rfl rfl rfl (V_len rfl Tryd.underlying22 rfl) ?_
          refine GT_st rfl rfl rfl rfl (V_gtr rfl rfl rfl) ?_
          refine GT_nil ?_
          first | refine GE_condNot rfl (fun q3 => ?_) (fun q3 => ?_) | refine GE_cond rfl (fun q3 => ?_) (fun q3 => ?_) | refine GE_condNotB rfl (fun q3 => ?_) (fun q3 => ?_) | refine GE_condB rfl (fun q3 => ?_) (fun q3 => ?_)
          · skip
            refine GE_seq ?_
            refine GE_slots (L' := []) trivial ?_
            refine GE_plain (.st 0 .nil) rfl ?_
            refine GT_st rfl rfl rfl rfl (V_assign rfl rfl) ?_
            refine GT_nil ?_
            refine GE_ret Tryd.func38 rfl (fun w hw => ⟨?_, hw.nil⟩)
            rw [lErr_six hkl (tErr_six.2 (by omega))]
          · skip
            refine GE_skip ?_
            refine GE_inBlock ?_
            refine GE_slots (L' := [(0, _), (3, _)]) ⟨rfl, rfl, trivial⟩ ?_
            refine GE_plain (.st 0 (.st 1 (.ld 2 [] .nil))) rfl ?_
            refine GT_st rfl rfl rfl rfl (V_move rfl rfl) ?_
            refine GT_st rfl rfl rfl rfl (V_add rfl rfl rfl (wrap_i64 (by omega))) ?_
            refine GT_ldv rfl rfl rfl rfl rfl (V_assign rfl rfl) (GR_nil) ?_
            refine GT_nil ?_
            exact GE_to (ih (k + 1) ⟨by omega, fun i hi => by rcases Nat.lt_or_ge i k with r | r; exact h6 i r; rw [show i = k by omega]; omega⟩ (by omega)) ⟨rfl, rfl, trivial⟩ HS.nil
        · have h6a : ∀ i, i < l.length → (l.getD i default).data.length ≤ 4096 := (fun i hi => h6 i (by omega))
          refine GE_exit rfl ?_
          refine GE_seq ?_
          refine GE_seq ?_
          refine GE_slots (L' := [(0, _)]) ⟨rfl, trivial⟩ ?_
          refine GE_plain (.st 0 .nil) rfl ?_
          refine GT_st rfl rfl rfl rfl (V_assign rfl rfl) ?_
          refine GT_nil ?_
          refine GE_block ?_
          refine GE_to (GE_loop (ι := Nat) (fun j => l.length - j) (fun j => [(0, .slice A l.length c), (4, I j)]) (fun j => []) (fun j => j ≤ l.length ∧ ∀ i, i < j → tErr (l.getD i default) = 0) ?_ 0 ?_) ⟨rfl, rfl, trivial⟩ HS.nil
          · rintro j ⟨hj, h0⟩ ih2
            refine GE_seq ?_
            refine GE_seq ?_
            refine GE_plain (.st 0 (.st 1 (.st 2 (.st 3 .nil)))) rfl ?_
            refine GT_st rfl rfl rfl rfl (V_move rfl rfl) ?_
            refine GT_st rfl rfl rfl rfl (V_move rfl rfl) ?_
            refine GT_st rfl rfl rfl rfl (V_len rfl Tryd.underlying28 rfl) ?_
            refine GT_st rfl rfl rfl rfl (V_lss rfl rfl rfl) ?_
            refine GT_nil ?_
            first | refine GE_condNot rfl (fun q4 => ?_) (fun q4 => ?_) | refine GE_cond rfl (fun q4 => ?_) (fun q4 => ?_) | refine GE_condNotB rfl (fun q4 => ?_) (fun q4 => ?_) | refine GE_condB rfl (fun q4 => ?_) (fun q4 => ?_)
            · have hjl : j < l.length := (by omega); have ht := h.2 _ (getD_mem hjl)
              refine GE_skip ?_
              refine GE_seq ?_
              refine GE_block ?_
              refine GE_seq ?_
              refine GE_slots (L' := [(0, _), (4, _)]) ⟨rfl, rfl, trivial⟩ ?_
              refine GE_plain (.st 0 (.st 1 (.st 2 (.st 3 (.ld 4 [] (.st 5 .nil)))))) rfl ?_
              refine GT_st rfl rfl rfl rfl (V_move rfl rfl) ?_
              refine GT_st rfl rfl rfl rfl (V_move rfl rfl) ?_
              refine GT_st rfl rfl rfl rfl (V_index rfl rfl rfl Tryd.underlying28 sz_27 (k := j) rfl hjl (h.1.isSome hjl)) ?_
              refine GT_st rfl rfl rfl rfl (V_loadN (vs := [_, _]) rfl rfl ag_27 sz_27 rfl (h.1.ats noM hjl)) ?_
              refine GT_call0 rfl rfl rfl rfl rfl rfl rfl rfl rn_61 (fun w hw => C_rtake (t := l.getD j default) (ht.1.sh hw) ht.2.2.2) (GR_nil) ?_
              refine GT_st rfl rfl rfl rfl (V_neq rfl rfl rfl) ?_
              refine GT_nil ?_
              first | refine GE_condNot rfl (fun q5 => ?_) (fun q5 => ?_) | refine GE_cond rfl (fun q5 => ?_) (fun q5 => ?_) | refine GE_condNotB rfl (fun q5 => ?_) (fun q5 => ?_) | refine GE_condB rfl (fun q5 => ?_) (fun q5 => ?_)
              · skip
                refine GE_seq ?_
                refine GE_slots (L' := []) trivial ?_
                refine GE_plain (.st 0 .nil) rfl ?_
                refine GT_st rfl rfl rfl rfl (V_assign rfl rfl) ?_
                refine GT_nil ?_
                refine GE_ret Tryd.func38 rfl (fun w hw => ⟨?_, hw.nil⟩)
                rw [lErr_two (by omega) h6a hjl (by omega)]
              · skip
                refine GE_skip ?_
                refine GE_inBlock ?_
                refine GE_slots (L' := [(0, _), (4, _)]) ⟨rfl, rfl, trivial⟩ ?_
                refine GE_plain (.st 0 (.st 1 (.ld 2 [] .nil))) rfl ?_
                refine GT_st rfl rfl rfl rfl (V_move rfl rfl) ?_
                refine GT_st rfl rfl rfl rfl (V_add rfl rfl rfl (wrap_i64 (by omega))) ?_
                refine GT_ldv rfl rfl rfl rfl rfl (V_assign rfl rfl) (GR_nil) ?_
                refine GT_nil ?_
                exact GE_to (ih2 (j + 1) ⟨by omega, fun i hi => by rcases Nat.lt_or_ge i j with r | r; exact h0 i r; rw [show i = j by omega]; omega⟩ (by omega)) ⟨rfl, rfl, trivial⟩ HS.nil
            · have h0a : ∀ i, i < l.length → tErr (l.getD i default) = 0 := (fun i hi => h0 i (by omega)); have hlr := lErr_rest (by omega) h0a
              refine GE_exit rfl ?_
              refine GE_seq ?_
              refine GE_seq ?_
              refine GE_slots (L' := [(0, _)]) ⟨rfl, trivial⟩ ?_
              refine GE_plain (.st 0 .nil) rfl ?_
              refine GT_st rfl rfl rfl rfl (V_assign rfl rfl) ?_
              refine GT_nil ?_
              refine GE_block ?_
              refine GE_to (GE_loop (ι := Nat) (fun a => l.length - a) (fun a => [(0, .slice A l.length c), (5, I a)]) (fun a => []) (fun a => a ≤ l.length ∧ ∀ i j, i < a → j < i → (l.getD i default).name ≠ (l.getD j default).name) ?_ 0 ?_) ⟨rfl, rfl, trivial⟩ HS.nil
              · rintro a ⟨ha, hap⟩ ih3
                refine GE_seq ?_
                refine GE_seq ?_
                refine GE_plain (.st 0 (.st 1 (.st 2 (.st 3 .nil)))) rfl ?_
                refine GT_st rfl rfl rfl rfl (V_move rfl rfl) ?_
                refine GT_st rfl rfl rfl rfl (V_move rfl rfl) ?_
                refine GT_st rfl rfl rfl rfl (V_len rfl Tryd.underlying28 rfl) ?_
                refine GT_st rfl rfl rfl rfl (V_lss rfl rfl rfl) ?_
                refine GT_nil ?_
                first | refine GE_condNot rfl (fun q6 => ?_) (fun q6 => ?_) | refine GE_cond rfl (fun q6 => ?_) (fun q6 => ?_) | refine GE_condNotB rfl (fun q6 => ?_) (fun q6 => ?_) | refine GE_condB rfl (fun q6 => ?_) (fun q6 => ?_)
                · have hal : a < l.length := (by omega)
                  refine GE_skip ?_
                  refine GE_seq ?_
                  refine GE_block ?_
                  refine GE_seq ?_
                  refine GE_slots (L' := [(0, _), (5, _)]) ⟨rfl, rfl, trivial⟩ ?_
                  refine GE_plain (.st 0 .nil) rfl ?_
                  refine GT_st rfl rfl rfl rfl (V_assign rfl rfl) ?_
                  refine GT_nil ?_
                  refine GE_block ?_
                  refine GE_to (GE_loop (ι := Nat) (fun b => a - b) (fun b => [(0, .slice A l.length c), (5, I a), (6, I b)]) (fun b => []) (fun b => b ≤ a ∧ ∀ j, j < b → (l.getD a default).name ≠ (l.getD j default).name) ?_ 0 ?_) ⟨rfl, rfl, rfl, trivial⟩ HS.nil
                  · rintro b ⟨hb, hbp⟩ ih4
                    refine GE_seq ?_
                    refine GE_seq ?_
                    refine GE_plain (.st 0 (.st 1 (.st 2 .nil))) rfl ?_
                    refine GT_st rfl rfl rfl rfl (V_move rfl rfl) ?_
                    refine GT_st rfl rfl rfl rfl (V_move rfl rfl) ?_
                    refine GT_st rfl rfl rfl rfl (V_lss rfl rfl rfl) ?_
                    refine GT_nil ?_
                    first | refine GE_condNot rfl (fun q7 => ?_) (fun q7 => ?_) | refine GE_cond rfl (fun q7 => ?_) (fun q7 => ?_) | refine GE_condNotB rfl (fun q7 => ?_) (fun q7 => ?_) | refine GE_condB rfl (fun q7 => ?_) (fun q7 => ?_)
                    · have hbl : b < l.length := (by omega)
                      refine GE_skip ?_
                      refine GE_seq ?_
                      refine GE_block ?_
                      refine GE_seq ?_
                      refine GE_drawn (.st 0 (.st 1 (.st 2 (.st 3 (.st 4 (.st 5 (.st 6 (.st 7 (.st 8 (.st 9 (.st 10 .nil))))))))))) [] (by decide +kernel) ?_
                      refine GT_st rfl rfl rfl rfl (V_move rfl rfl) ?_
                      refine GT_st rfl rfl rfl rfl (V_move rfl rfl) ?_
                      refine GT_st rfl rfl rfl rfl (V_index rfl rfl rfl Tryd.underlying28 sz_27 (k := a) rfl hal (h.1.isSome hal)) ?_
                      first | refine GT_st rfl rfl rfl rfl (V_field rfl rfl fo_27_0) ?_ | refine GT_st rfl rfl rfl rfl (V_fieldA rfl rfl fo_27_0) ?_
                      refine GT_st rfl rfl rfl rfl (V_load rfl rfl ag_9 (h.1.at0 noM hal rfl)) ?_
                      refine GT_st rfl rfl rfl rfl (V_move rfl rfl) ?_
                      refine GT_st rfl rfl rfl rfl (V_move rfl rfl) ?_
                      refine GT_st rfl rfl rfl rfl (V_index rfl rfl rfl Tryd.underlying28 sz_27 (k := b) rfl hbl (h.1.isSome hbl)) ?_
                      first | refine GT_st rfl rfl rfl rfl (V_field rfl rfl fo_27_0) ?_ | refine GT_st rfl rfl rfl rfl (V_fieldA rfl rfl fo_27_0) ?_
                      refine GT_st rfl rfl rfl rfl (V_load rfl rfl ag_9 (h.1.at0 noM hbl rfl)) ?_
                      refine GT_st rfl rfl rfl rfl (V_eqlStr rfl rfl rfl) ?_
                      refine GT_nil ?_
                      first | refine GE_condNot rfl (fun q8 => ?_) (fun q8 => ?_) | refine GE_cond rfl (fun q8 => ?_) (fun q8 => ?_) | refine GE_condNotB rfl (fun q8 => ?_) (fun q8 => ?_) | refine GE_condB rfl (fun q8 => ?_) (fun q8 => ?_)
                      · skip
                        refine GE_seq ?_
                        refine GE_slots (L' := []) trivial ?_
                        refine GE_plain (.st 0 .nil) rfl ?_
                        refine GT_st rfl rfl rfl rfl (V_assign rfl rfl) ?_
                        refine GT_nil ?_
                        refine GE_ret Tryd.func38 rfl (fun w hw => ⟨?_, hw.nil⟩)
                        rw [hlr, if_neg (names_same hal (by omega) q8)]
                      · skip
                        refine GE_skip ?_
                        refine GE_inBlock ?_
                        refine GE_slots (L' := [(0, _), (5, _), (6, _)]) ⟨rfl, rfl, rfl, trivial⟩ ?_
                        refine GE_plain (.st 0 (.st 1 (.ld 2 [] .nil))) rfl ?_
                        refine GT_st rfl rfl rfl rfl (V_move rfl rfl) ?_
                        refine GT_st rfl rfl rfl rfl (V_add rfl rfl rfl (wrap_i64 (by omega))) ?_
                        refine GT_ldv rfl rfl rfl rfl rfl (V_assign rfl rfl) (GR_nil) ?_
                        refine GT_nil ?_
                        exact GE_to (ih4 (b + 1) ⟨by omega, fun j hj => by rcases Nat.lt_or_ge j b with r | r; exact hbp j r; obtain rfl : j = b := (by omega); exact q8⟩ (by omega)) ⟨rfl, rfl, rfl, trivial⟩ HS.nil
                    · skip
                      refine GE_exit rfl ?_
                      refine GE_inBlock ?_
                      refine GE_slots (L' := [(0, _), (5, _)]) ⟨rfl, rfl, trivial⟩ ?_
                      refine GE_plain (.st 0 (.st 1 (.ld 2 [] .nil))) rfl ?_
                      refine GT_st rfl rfl rfl rfl (V_move rfl rfl) ?_
                      refine GT_st rfl rfl rfl rfl (V_add rfl rfl rfl (wrap_i64 (by omega))) ?_
                      refine GT_ldv rfl rfl rfl rfl rfl (V_assign rfl rfl) (GR_nil) ?_
                      refine GT_nil ?_
                      exact GE_to (ih3 (a + 1) ⟨by omega, fun i j hi hj => by rcases Nat.lt_or_ge i a with r | r; exact hap i j r hj; obtain rfl : i = a := (by omega); exact hbp j (by omega)⟩ (by omega)) ⟨rfl, rfl, trivial⟩ HS.nil
                  · exact ⟨Nat.zero_le _, fun j hi => absurd hi (Nat.not_lt_zero _)⟩
                · skip
                  refine GE_exit rfl ?_
                  refine GE_seq ?_
                  refine GE_slots (L' := []) trivial ?_
                  refine GE_plain (.st 0 .nil) rfl ?_
                  refine GT_st rfl rfl rfl rfl (V_assign rfl rfl) ?_
                  refine GT_nil ?_
                  refine GE_ret Tryd.func38 rfl (fun w hw => ⟨?_, hw.nil⟩)
                  rw [hlr, if_pos (names_apart (fun i j hi hj => hap i j (by omega) hj))]
              · exact ⟨Nat.zero_le _, fun i j hi => absurd hi (Nat.not_lt_zero _)⟩
          · exact ⟨Nat.zero_le _, fun i hi => absurd hi (Nat.not_lt_zero _)⟩
      · exact ⟨Nat.zero_le _, fun i hi => absurd hi (Nat.not_lt_zero _)⟩
set_option maxRecDepth 10000 in
theorem C_rpart {l : List Tk} {x : Prt} (h : Tks w A l) : Con0 Tryd.prog 52 [.slice A l.length c, .agg #[I x.tk, I x.fr, I x.to, I x.gap, I x.inn, I x.out, I x.lev]] w (.bool (goodP l x)) := by
  have hd : ∀ q : Bool, (((0 ≤ x.tk ∧ x.tk < (l.length : Int)) ∧ 0 ≤ x.fr ∧ x.fr < x.to ∧ x.to ≤ ((tkOf l x).data.length : Int) ∧ (-4096 ≤ x.gap ∧ x.gap ≤ 4096) ∧ (0 ≤ x.inn ∧ x.inn ≤ 1000) ∧ (0 ≤ x.out ∧ x.out ≤ 1000) ∧ (0 ≤ x.lev ∧ x.lev ≤ 4000)) ↔ q = true) → Value.bool q = Value.bool (goodP l x) := fun q hq => congrArg Value.bool (by rw [Bool.eq_iff_iff, ← hq, goodP]; simp only [Bool.and_eq_true, decide_eq_true_iff, betw_iff]; simp only [and_assoc])
  have dT : ∀ {q : Prop} [Decidable q], ∀ r : Prop, (r ↔ q) → (r ↔ decide q = true) := fun r e => by rw [decide_eq_true_iff]; exact e
  have dF : ∀ r : Prop, ¬ r → (r ↔ false = true) := fun r e => ⟨fun x => absurd x e, fun x => by cases x⟩
  have h1000 : ∀ {z : Int}, z = z := rfl
  refine Ret_of (vs := [_, _]) hm none' Tryd.func52 rfl Tryd.ntmps52 rfl ?_
  dsimp only [slotsOf]
  refine GE_seq ?_
  refine GE_plain (.ld 0 [] (.st 1 .nil)) rfl ?_
  refine GT_box (z := [_, _, _, _, _, _, _]) rfl rfl rfl rfl rfl rfl rfl (fun _ => GR_nil) (fun b3 => ?_)
  refine GT_st rfl rfl rfl rfl (V_assign rfl rfl) ?_
  refine GT_nil ?_
  refine GE_seq ?_
  refine GE_seq ?_
  refine GE_drawn (.st 0 (.st 1 (.st 2 (.st 3 (.st 4 (.st 5 (.st 6 (.st 7 (.st 8 (.st 9 (.st 10 (.st 11 (.st 12 (.st 13 (.st 14 (.st 15 (.st 16 (.st 17 (.st 18 (.st 19 (.st 20 (.st 21 (.st 22 (.st 23 (.st 24 (.st 25 (.st 26 (.st 27 (.st 28 (.st 29 (.st 30 (.st 31 (.st 32 (.st 33 (.st 34 (.st 35 (.st 36 (.st 37 (.st 38 (.st 39 (.st 40 (.st 41 (.st 42 (.st 43 .nil)))))))))))))))))))))))))))))))))))))))))))) [] (by decide +kernel) ?_
  first | refine GT_st rfl rfl rfl rfl (V_field rfl rfl fo_30_0) ?_ | refine GT_st rfl rfl rfl rfl (V_fieldA rfl rfl fo_30_0) ?_
  refine GT_st rfl rfl rfl rfl (V_load rfl rfl ag_3 (CellAt.item rfl)) ?_
  refine GT_st rfl rfl rfl rfl (V_lss rfl rfl rfl) ?_
  refine GT_st rfl rfl rfl rfl (V_move rfl rfl) ?_
  first | refine GT_splitNot (d := 8) rfl (fun q1 => ?_) (fun q1 => ?_) | refine GT_split (d := 8) rfl (fun q1 => ?_) (fun q1 => ?_) | refine GT_splitNotB (d := 8) rfl (fun q1 => ?_) (fun q1 => ?_) | refine GT_splitB (d := 8) rfl (fun q1 => ?_) (fun q1 => ?_)
  · skip
    refine GT_skip rfl rfl rfl rfl rfl (by decide) rfl rfl ?_
    refine GT_skip rfl rfl rfl rfl rfl (by decide) rfl rfl ?_
    refine GT_skip rfl rfl rfl rfl rfl (by decide) rfl rfl ?_
    refine GT_skip rfl rfl rfl rfl rfl (by decide) rfl rfl ?_
    refine GT_skip rfl rfl rfl rfl rfl (by decide) rfl rfl ?_
    refine GT_st rfl rfl rfl rfl (V_pick_t rfl rfl rfl) ?_
    refine GT_st rfl rfl rfl rfl (V_move rfl rfl) ?_
    refine GT_skip rfl rfl rfl rfl rfl (by decide) rfl rfl ?_
    refine GT_skip rfl rfl rfl rfl rfl (by decide) rfl rfl ?_
    refine GT_skip rfl rfl rfl rfl rfl (by decide) rfl rfl ?_
    refine GT_st rfl rfl rfl rfl (V_pick_t rfl rfl rfl) ?_
    refine GT_st rfl rfl rfl rfl (V_move rfl rfl) ?_
    refine GT_skip rfl rfl rfl rfl rfl (by decide) rfl rfl ?_
    refine GT_skip rfl rfl rfl rfl rfl (by decide) rfl rfl ?_
    refine GT_skip rfl rfl rfl rfl rfl (by decide) rfl rfl ?_
    refine GT_skip rfl rfl rfl rfl rfl (by decide) rfl rfl ?_
    refine GT_skip rfl rfl rfl rfl rfl (by decide) rfl rfl ?_
    refine GT_st rfl rfl rfl rfl (V_pick_t rfl rfl rfl) ?_
    refine GT_st rfl rfl rfl rfl (V_move rfl rfl) ?_
    refine GT_skip rfl rfl rfl rfl rfl (by decide) rfl rfl ?_
    refine GT_skip rfl rfl rfl rfl rfl (by decide) rfl rfl ?_
    refine GT_skip rfl rfl rfl rfl rfl (by decide) rfl rfl ?_
    refine GT_skip rfl rfl rfl rfl rfl (by decide) rfl rfl ?_
    refine GT_skip rfl rfl rfl rfl rfl (by decide) rfl rfl ?_
    refine GT_skip rfl rfl rfl rfl rfl (by decide) rfl rfl ?_
    refine GT_skip rfl rfl rfl rfl rfl (by decide) rfl rfl ?_
    refine GT_skip rfl rfl rfl rfl rfl (by decide) rfl rfl ?_
    refine GT_skip rfl rfl rfl rfl rfl (by decide) rfl rfl ?_
    refine GT_skip rfl rfl rfl rfl rfl (by decide) rfl rfl ?_
    refine GT_st rfl rfl rfl rfl (V_pick_t rfl rfl rfl) ?_
    refine GT_st rfl rfl rfl rfl (V_move rfl rfl) ?_
    refine GT_skip rfl rfl rfl rfl rfl (by decide) rfl rfl ?_
    refine GT_skip rfl rfl rfl rfl rfl (by decide) rfl rfl ?_
    refine GT_skip rfl rfl rfl rfl rfl (by decide) rfl rfl ?_
    refine GT_st rfl rfl rfl rfl (V_pick_t rfl rfl rfl) ?_
    refine GT_st rfl rfl rfl rfl (V_move rfl rfl) ?_
    refine GT_skip rfl rfl rfl rfl rfl (by decide) rfl rfl ?_
    refine GT_skip rfl rfl rfl rfl rfl (by decide) rfl rfl ?_
    refine GT_skip rfl rfl rfl rfl rfl (by decide) rfl rfl ?_
    refine GT_st rfl rfl rfl rfl (V_pick_t rfl rfl rfl) ?_
    refine GT_nil ?_
    refine GE_cond_t rfl ?_
    refine GE_seq ?_
    refine GE_slots (L' := []) trivial ?_
    refine GE_plain (.st 0 .nil) rfl ?_
    refine GT_st rfl rfl rfl rfl (V_assign rfl rfl) ?_
    refine GT_nil ?_
    refine GE_ret Tryd.func52 rfl (fun w hw => ⟨?_, hw.nil⟩)
    refine hd _ ?_; first | exact dF _ (fun e => by omega) | exact dF _ (fun e => by have := e.2.2.2.1; unfold tkOf at this; omega) | exact dT _ ⟨fun e => by omega, fun e => by refine ⟨⟨?_, ?_⟩, ?_, ?_, ?_, ⟨?_, ?_⟩, ⟨?_, ?_⟩, ⟨?_, ?_⟩, ?_, ?_⟩ <;> omega⟩
  · skip
    first | refine GT_st_g rfl rfl rfl rfl rfl rfl rfl (V_field rfl rfl fo_30_0) ?_ | refine GT_st_g rfl rfl rfl rfl rfl rfl rfl (V_fieldA rfl rfl fo_30_0) ?_
    refine GT_st_g rfl rfl rfl rfl rfl rfl rfl (V_load rfl rfl ag_3 (CellAt.item rfl)) ?_
    refine GT_st_g rfl rfl rfl rfl rfl rfl rfl (V_move rfl rfl) ?_
    refine GT_st_g rfl rfl rfl rfl rfl rfl rfl (V_len rfl Tryd.underlying28 rfl) ?_
    refine GT_st_g rfl rfl rfl rfl rfl rfl rfl (V_geq rfl rfl rfl) ?_
    refine GT_st rfl rfl rfl rfl (V_pick_f rfl rfl rfl) ?_
    refine GT_st rfl rfl rfl rfl (V_move rfl rfl) ?_
    first | refine GT_splitNot (d := 15) rfl (fun q2 => ?_) (fun q2 => ?_) | refine GT_split (d := 15) rfl (fun q2 => ?_) (fun q2 => ?_) | refine GT_splitNotB (d := 15) rfl (fun q2 => ?_) (fun q2 => ?_) | refine GT_splitB (d := 15) rfl (fun q2 => ?_) (fun q2 => ?_)
    · skip
      refine GT_skip rfl rfl rfl rfl rfl (by decide) rfl rfl ?_
      refine GT_skip rfl rfl rfl rfl rfl (by decide) rfl rfl ?_
      refine GT_skip rfl rfl rfl rfl rfl (by decide) rfl rfl ?_
      refine GT_st rfl rfl rfl rfl (V_pick_t rfl rfl rfl) ?_
      refine GT_st rfl rfl rfl rfl (V_move rfl rfl) ?_
      refine GT_skip rfl rfl rfl rfl rfl (by decide) rfl rfl ?_
      refine GT_skip rfl rfl rfl rfl rfl (by decide) rfl rfl ?_
      refine GT_skip rfl rfl rfl rfl rfl (by decide) rfl rfl ?_
      refine GT_skip rfl rfl rfl rfl rfl (by decide) rfl rfl ?_
      refine GT_skip rfl rfl rfl rfl rfl (by decide) rfl rfl ?_
      refine GT_st rfl rfl rfl rfl (V_pick_t rfl rfl rfl) ?_
      refine GT_st rfl rfl rfl rfl (V_move rfl rfl) ?_
      refine GT_skip rfl rfl rfl rfl rfl (by decide) rfl rfl ?_
      refine GT_skip rfl rfl rfl rfl rfl (by decide) rfl rfl ?_
      refine GT_skip rfl rfl rfl rfl rfl (by decide) rfl rfl ?_
      refine GT_skip rfl rfl rfl rfl rfl (by decide) rfl rfl ?_
      refine GT_skip rfl rfl rfl rfl rfl (by decide) rfl rfl ?_
      refine GT_skip rfl rfl rfl rfl rfl (by decide) rfl rfl ?_
      refine GT_skip rfl rfl rfl rfl rfl (by decide) rfl rfl ?_
      refine GT_skip rfl rfl rfl rfl rfl (by decide) rfl rfl ?_
      refine GT_skip rfl rfl rfl rfl rfl (by decide) rfl rfl ?_
      refine GT_skip rfl rfl rfl rfl rfl (by decide) rfl rfl ?_
      refine GT_st rfl rfl rfl rfl (V_pick_t rfl rfl rfl) ?_
      refine GT_st rfl rfl rfl rfl (V_move rfl rfl) ?_
      refine GT_skip rfl rfl rfl rfl rfl (by decide) rfl rfl ?_
      refine GT_skip rfl rfl rfl rfl rfl (by decide) rfl rfl ?_
      refine GT_skip rfl rfl rfl rfl rfl (by decide) rfl rfl ?_
      refine GT_st rfl rfl rfl rfl (V_pick_t rfl rfl rfl) ?_
      refine GT_st rfl rfl rfl rfl (V_move rfl rfl) ?_
      refine GT_skip rfl rfl rfl rfl rfl (by decide) rfl rfl ?_
      refine GT_skip rfl rfl rfl rfl rfl (by decide) rfl rfl ?_
      refine GT_skip rfl rfl rfl rfl rfl (by decide) rfl rfl ?_
      refine GT_st rfl rfl rfl rfl (V_pick_t rfl rfl rfl) ?_
      refine GT_nil ?_
      refine GE_cond_t rfl ?_
      refine GE_seq ?_
      refine GE_slots (L' := []) trivial ?_
      refine GE_plain (.st 0 .nil) rfl ?_
      refine GT_st rfl rfl rfl rfl (V_assign rfl rfl) ?_
      refine GT_nil ?_
      refine GE_ret Tryd.func52 rfl (fun w hw => ⟨?_, hw.nil⟩)
      refine hd _ ?_; first | exact dF _ (fun e => by omega) | exact dF _ (fun e => by have := e.2.2.2.1; unfold tkOf at this; omega) | exact dT _ ⟨fun e => by omega, fun e => by refine ⟨⟨?_, ?_⟩, ?_, ?_, ?_, ⟨?_, ?_⟩, ⟨?_, ?_⟩, ⟨?_, ?_⟩, ?_, ?_⟩ <;> omega⟩
    · skip
      first | refine GT_st_g rfl rfl rfl rfl rfl rfl rfl (V_field rfl rfl fo_30_1) ?_ | refine GT_st_g rfl rfl rfl rfl rfl rfl rfl (V_fieldA rfl rfl fo_30_1) ?_
      refine GT_st_g rfl rfl rfl rfl rfl rfl rfl (V_load rfl rfl ag_3 (CellAt.item rfl)) ?_
      refine GT_st_g rfl rfl rfl rfl rfl rfl rfl (V_lss rfl rfl rfl) ?_
      refine GT_st rfl rfl rfl rfl (V_pick_f rfl rfl rfl) ?_
      refine GT_st rfl rfl rfl rfl (V_move rfl rfl) ?_
      first | refine GT_splitNot (d := 20) rfl (fun q3 => ?_) (fun q3 => ?_) | refine GT_split (d := 20) rfl (fun q3 => ?_) (fun q3 => ?_) | refine GT_splitNotB (d := 20) rfl (fun q3 => ?_) (fun q3 => ?_) | refine GT_splitB (d := 20) rfl (fun q3 => ?_) (fun q3 => ?_)
      · skip
        refine GT_skip rfl rfl rfl rfl rfl (by decide) rfl rfl ?_
        refine GT_skip rfl rfl rfl rfl rfl (by decide) rfl rfl ?_
        refine GT_skip rfl rfl rfl rfl rfl (by decide) rfl rfl ?_
        refine GT_skip rfl rfl rfl rfl rfl (by decide) rfl rfl ?_
        refine GT_skip rfl rfl rfl rfl rfl (by decide) rfl rfl ?_
        refine GT_st rfl rfl rfl rfl (V_pick_t rfl rfl rfl) ?_
        refine GT_st rfl rfl rfl rfl (V_move rfl rfl) ?_
        refine GT_skip rfl rfl rfl rfl rfl (by decide) rfl rfl ?_
        refine GT_skip rfl rfl rfl rfl rfl (by decide) rfl rfl ?_
        refine GT_skip rfl rfl rfl rfl rfl (by decide) rfl rfl ?_
        refine GT_skip rfl rfl rfl rfl rfl (by decide) rfl rfl ?_
        refine GT_skip rfl rfl rfl rfl rfl (by decide) rfl rfl ?_
        refine GT_skip rfl rfl rfl rfl rfl (by decide) rfl rfl ?_
        refine GT_skip rfl rfl rfl rfl rfl (by decide) rfl rfl ?_
        refine GT_skip rfl rfl rfl rfl rfl (by decide) rfl rfl ?_
        refine GT_skip rfl rfl rfl rfl rfl (by decide) rfl rfl ?_
        refine GT_skip rfl rfl rfl rfl rfl (by decide) rfl rfl ?_
        refine GT_st rfl rfl rfl rfl (V_pick_t rfl rfl rfl) ?_
        refine GT_st rfl rfl rfl rfl (V_move rfl rfl) ?_
        refine GT_skip rfl rfl rfl rfl rfl (by decide) rfl rfl ?_
        refine GT_skip rfl rfl rfl rfl rfl (by decide) rfl rfl ?_
        refine GT_skip rfl rfl rfl rfl rfl (by decide) rfl rfl ?_
        refine GT_st rfl rfl rfl rfl (V_pick_t rfl rfl rfl) ?_
        refine GT_st rfl rfl rfl rfl (V_move rfl rfl) ?_
        refine GT_skip rfl rfl rfl rfl rfl (by decide) rfl rfl ?_
        refine GT_skip rfl rfl rfl rfl rfl (by decide) rfl rfl ?_
        refine GT_skip rfl rfl rfl rfl rfl (by decide) rfl rfl ?_
        refine GT_st rfl rfl rfl rfl (V_pick_t rfl rfl rfl) ?_
        refine GT_nil ?_
        refine GE_cond_t rfl ?_
        refine GE_seq ?_
        refine GE_slots (L' := []) trivial ?_
        refine GE_plain (.st 0 .nil) rfl ?_
        refine GT_st rfl rfl rfl rfl (V_assign rfl rfl) ?_
        refine GT_nil ?_
        refine GE_ret Tryd.func52 rfl (fun w hw => ⟨?_, hw.nil⟩)
        refine hd _ ?_; first | exact dF _ (fun e => by omega) | exact dF _ (fun e => by have := e.2.2.2.1; unfold tkOf at this; omega) | exact dT _ ⟨fun e => by omega, fun e => by refine ⟨⟨?_, ?_⟩, ?_, ?_, ?_, ⟨?_, ?_⟩, ⟨?_, ?_⟩, ⟨?_, ?_⟩, ?_, ?_⟩ <;> omega⟩
      · skip
        first | refine GT_st_g rfl rfl rfl rfl rfl rfl rfl (V_field rfl rfl fo_30_1) ?_ | refine GT_st_g rfl rfl rfl rfl rfl rfl rfl (V_fieldA rfl rfl fo_30_1) ?_
        refine GT_st_g rfl rfl rfl rfl rfl rfl rfl (V_load rfl rfl ag_3 (CellAt.item rfl)) ?_
        first | refine GT_st_g rfl rfl rfl rfl rfl rfl rfl (V_field rfl rfl fo_30_2) ?_ | refine GT_st_g rfl rfl rfl rfl rfl rfl rfl (V_fieldA rfl rfl fo_30_2) ?_
        refine GT_st_g rfl rfl rfl rfl rfl rfl rfl (V_load rfl rfl ag_3 (CellAt.item rfl)) ?_
        refine GT_st_g rfl rfl rfl rfl rfl rfl rfl (V_geq rfl rfl rfl) ?_
        refine GT_st rfl rfl rfl rfl (V_pick_f rfl rfl rfl) ?_
        refine GT_st rfl rfl rfl rfl (V_move rfl rfl) ?_
        first | refine GT_splitNot (d := 27) rfl (fun q4 => ?_) (fun q4 => ?_) | refine GT_split (d := 27) rfl (fun q4 => ?_) (fun q4 => ?_) | refine GT_splitNotB (d := 27) rfl (fun q4 => ?_) (fun q4 => ?_) | refine GT_splitB (d := 27) rfl (fun q4 => ?_) (fun q4 => ?_)
        · skip
          refine GT_skip rfl rfl rfl rfl rfl (by decide) rfl rfl ?_
          refine GT_skip rfl rfl rfl rfl rfl (by decide) rfl rfl ?_
          refine GT_skip rfl rfl rfl rfl rfl (by decide) rfl rfl ?_
          refine GT_skip rfl rfl rfl rfl rfl (by decide) rfl rfl ?_
          refine GT_skip rfl rfl rfl rfl rfl (by decide) rfl rfl ?_
          refine GT_skip rfl rfl rfl rfl rfl (by decide) rfl rfl ?_
          refine GT_skip rfl rfl rfl rfl rfl (by decide) rfl rfl ?_
          refine GT_skip rfl rfl rfl rfl rfl (by decide) rfl rfl ?_
          refine GT_skip rfl rfl rfl rfl rfl (by decide) rfl rfl ?_
          refine GT_skip rfl rfl rfl rfl rfl (by decide) rfl rfl ?_
          refine GT_st rfl rfl rfl rfl (V_pick_t rfl rfl rfl) ?_
          refine GT_st rfl rfl rfl rfl (V_move rfl rfl) ?_
          refine GT_skip rfl rfl rfl rfl rfl (by decide) rfl rfl ?_
          refine GT_skip rfl rfl rfl rfl rfl (by decide) rfl rfl ?_
          refine GT_skip rfl rfl rfl rfl rfl (by decide) rfl rfl ?_
          refine GT_st rfl rfl rfl rfl (V_pick_t rfl rfl rfl) ?_
          refine GT_st rfl rfl rfl rfl (V_move rfl rfl) ?_
          refine GT_skip rfl rfl rfl rfl rfl (by decide) rfl rfl ?_
          refine GT_skip rfl rfl rfl rfl rfl (by decide) rfl rfl ?_
          refine GT_skip rfl rfl rfl rfl rfl (by decide) rfl rfl ?_
          refine GT_st rfl rfl rfl rfl (V_pick_t rfl rfl rfl) ?_
          refine GT_nil ?_
          refine GE_cond_t rfl ?_
          refine GE_seq ?_
          refine GE_slots (L' := []) trivial ?_
          refine GE_plain (.st 0 .nil) rfl ?_
          refine GT_st rfl rfl rfl rfl (V_assign rfl rfl) ?_
          refine GT_nil ?_
          refine GE_ret Tryd.func52 rfl (fun w hw => ⟨?_, hw.nil⟩)
          refine hd _ ?_; first | exact dF _ (fun e => by omega) | exact dF _ (fun e => by have := e.2.2.2.1; unfold tkOf at this; omega) | exact dT _ ⟨fun e => by omega, fun e => by refine ⟨⟨?_, ?_⟩, ?_, ?_, ?_, ⟨?_, ?_⟩, ⟨?_, ?_⟩, ⟨?_, ?_⟩, ?_, ?_⟩ <;> omega⟩
        · have hk : x.tk.toNat < l.length := (by omega)
          first | refine GT_st_g rfl rfl rfl rfl rfl rfl rfl (V_field rfl rfl fo_30_2) ?_ | refine GT_st_g rfl rfl rfl rfl rfl rfl rfl (V_fieldA rfl rfl fo_30_2) ?_
          refine GT_st_g rfl rfl rfl rfl rfl rfl rfl (V_load rfl rfl ag_3 (CellAt.item rfl)) ?_
          refine GT_st_g rfl rfl rfl rfl rfl rfl rfl (V_move rfl rfl) ?_
          first | refine GT_st_g rfl rfl rfl rfl rfl rfl rfl (V_field rfl rfl fo_30_0) ?_ | refine GT_st_g rfl rfl rfl rfl rfl rfl rfl (V_fieldA rfl rfl fo_30_0) ?_
          refine GT_st_g rfl rfl rfl rfl rfl rfl rfl (V_load rfl rfl ag_3 (CellAt.item rfl)) ?_
          refine GT_st_g rfl rfl rfl rfl rfl rfl rfl (V_index rfl rfl rfl Tryd.underlying28 sz_27 (k := x.tk.toNat) (by omega) hk (h.1.isSome hk)) ?_
          first | refine GT_st_g rfl rfl rfl rfl rfl rfl rfl (V_field rfl rfl fo_27_1) ?_ | refine GT_st_g rfl rfl rfl rfl rfl rfl rfl (V_fieldA rfl rfl fo_27_1) ?_
          refine GT_st_g rfl rfl rfl rfl rfl rfl rfl (V_load rfl rfl ag_22 (h.1.at1 noM hk rfl)) ?_
          refine GT_st_g rfl rfl rfl rfl rfl rfl rfl (V_len rfl Tryd.underlying22 rfl) ?_
          refine GT_st_g rfl rfl rfl rfl rfl rfl rfl (V_gtr rfl rfl rfl) ?_
          refine GT_st rfl rfl rfl rfl (V_pick_f rfl rfl rfl) ?_
          refine GT_st rfl rfl rfl rfl (V_move rfl rfl) ?_
          first | refine GT_splitNot (d := 39) rfl (fun q5 => ?_) (fun q5 => ?_) | refine GT_split (d := 39) rfl (fun q5 => ?_) (fun q5 => ?_) | refine GT_splitNotB (d := 39) rfl (fun q5 => ?_) (fun q5 => ?_) | refine GT_splitB (d := 39) rfl (fun q5 => ?_) (fun q5 => ?_)
          · skip
            refine GT_skip rfl rfl rfl rfl rfl (by decide) rfl rfl ?_
            refine GT_skip rfl rfl rfl rfl rfl (by decide) rfl rfl ?_
            refine GT_skip rfl rfl rfl rfl rfl (by decide) rfl rfl ?_
            refine GT_st rfl rfl rfl rfl (V_pick_t rfl rfl rfl) ?_
            refine GT_st rfl rfl rfl rfl (V_move rfl rfl) ?_
            refine GT_skip rfl rfl rfl rfl rfl (by decide) rfl rfl ?_
            refine GT_skip rfl rfl rfl rfl rfl (by decide) rfl rfl ?_
            refine GT_skip rfl rfl rfl rfl rfl (by decide) rfl rfl ?_
            refine GT_st rfl rfl rfl rfl (V_pick_t rfl rfl rfl) ?_
            refine GT_nil ?_
            refine GE_cond_t rfl ?_
            refine GE_seq ?_
            refine GE_slots (L' := []) trivial ?_
            refine GE_plain (.st 0 .nil) rfl ?_
            refine GT_st rfl rfl rfl rfl (V_assign rfl rfl) ?_
            refine GT_nil ?_
            refine GE_ret Tryd.func52 rfl (fun w hw => ⟨?_, hw.nil⟩)
            refine hd _ ?_; first | exact dF _ (fun e => by omega) | exact dF _ (fun e => by have := e.2.2.2.1; unfold tkOf at this; omega) | exact dT _ ⟨fun e => by omega, fun e => by refine ⟨⟨?_, ?_⟩, ?_, ?_, ?_, ⟨?_, ?_⟩, ⟨?_, ?_⟩, ⟨?_, ?_⟩, ?_, ?_⟩ <;> omega⟩
          · skip
            first | refine GT_st_g rfl rfl rfl rfl rfl rfl rfl (V_field rfl rfl fo_30_3) ?_ | refine GT_st_g rfl rfl rfl rfl rfl rfl rfl (V_fieldA rfl rfl fo_30_3) ?_
            refine GT_st_g rfl rfl rfl rfl rfl rfl rfl (V_load rfl rfl ag_3 (CellAt.item rfl)) ?_
            refine GT_st_g rfl rfl rfl rfl rfl rfl rfl (V_lss rfl rfl rfl) ?_
            refine GT_st rfl rfl rfl rfl (V_pick_f rfl rfl rfl) ?_
            refine GT_st rfl rfl rfl rfl (V_move rfl rfl) ?_
            first | refine GT_splitNot (d := 44) rfl (fun q6 => ?_) (fun q6 => ?_) | refine GT_split (d := 44) rfl (fun q6 => ?_) (fun q6 => ?_) | refine GT_splitNotB (d := 44) rfl (fun q6 => ?_) (fun q6 => ?_) | refine GT_splitB (d := 44) rfl (fun q6 => ?_) (fun q6 => ?_)
            · skip
              refine GT_skip rfl rfl rfl rfl rfl (by decide) rfl rfl ?_
              refine GT_skip rfl rfl rfl rfl rfl (by decide) rfl rfl ?_
              refine GT_skip rfl rfl rfl rfl rfl (by decide) rfl rfl ?_
              refine GT_st rfl rfl rfl rfl (V_pick_t rfl rfl rfl) ?_
              refine GT_nil ?_
              refine GE_cond_t rfl ?_
              refine GE_seq ?_
              refine GE_slots (L' := []) trivial ?_
              refine GE_plain (.st 0 .nil) rfl ?_
              refine GT_st rfl rfl rfl rfl (V_assign rfl rfl) ?_
              refine GT_nil ?_
              refine GE_ret Tryd.func52 rfl (fun w hw => ⟨?_, hw.nil⟩)
              refine hd _ ?_; first | exact dF _ (fun e => by omega) | exact dF _ (fun e => by have := e.2.2.2.1; unfold tkOf at this; omega) | exact dT _ ⟨fun e => by omega, fun e => by refine ⟨⟨?_, ?_⟩, ?_, ?_, ?_, ⟨?_, ?_⟩, ⟨?_, ?_⟩, ⟨?_, ?_⟩, ?_, ?_⟩ <;> omega⟩
            · skip
              first | refine GT_st_g rfl rfl rfl rfl rfl rfl rfl (V_field rfl rfl fo_30_3) ?_ | refine GT_st_g rfl rfl rfl rfl rfl rfl rfl (V_fieldA rfl rfl fo_30_3) ?_
              refine GT_st_g rfl rfl rfl rfl rfl rfl rfl (V_load rfl rfl ag_3 (CellAt.item rfl)) ?_
              refine GT_st_g rfl rfl rfl rfl rfl rfl rfl (V_gtr rfl rfl rfl) ?_
              refine GT_st rfl rfl rfl rfl (V_pick_f rfl rfl rfl) ?_
              refine GT_nil ?_
              first | refine GE_condNot rfl (fun q7 => ?_) (fun q7 => ?_) | refine GE_cond rfl (fun q7 => ?_) (fun q7 => ?_) | refine GE_condNotB rfl (fun q7 => ?_) (fun q7 => ?_) | refine GE_condB rfl (fun q7 => ?_) (fun q7 => ?_)
              · skip
                refine GE_seq ?_
                refine GE_slots (L' := []) trivial ?_
                refine GE_plain (.st 0 .nil) rfl ?_
                refine GT_st rfl rfl rfl rfl (V_assign rfl rfl) ?_
                refine GT_nil ?_
                refine GE_ret Tryd.func52 rfl (fun w hw => ⟨?_, hw.nil⟩)
                refine hd _ ?_; first | exact dF _ (fun e => by omega) | exact dF _ (fun e => by have := e.2.2.2.1; unfold tkOf at this; omega) | exact dT _ ⟨fun e => by omega, fun e => by refine ⟨⟨?_, ?_⟩, ?_, ?_, ?_, ⟨?_, ?_⟩, ⟨?_, ?_⟩, ⟨?_, ?_⟩, ?_, ?_⟩ <;> omega⟩
              · have htk : x.to ≤ ((tkOf l x).data.length : Int) := (by unfold tkOf; omega)
                refine GE_skip ?_
                refine GE_seq ?_
                refine GE_slots (L' := [(3, _)]) ⟨rfl, trivial⟩ ?_
                refine GE_plain (.st 0 (.st 1 (.st 2 (.st 3 (.st 4 (.st 5 (.st 6 (.st 7 (.st 8 (.st 9 (.st 10 (.st 11 (.st 12 (.st 13 (.st 14 (.st 15 (.st 16 (.st 17 (.st 18 (.st 19 (.st 20 (.st 21 (.st 22 (.st 23 (.st 24 (.st 25 (.st 26 (.st 27 (.st 28 .nil))))))))))))))))))))))))))))) rfl ?_
                first | refine GT_st rfl rfl rfl rfl (V_field rfl rfl fo_30_4) ?_ | refine GT_st rfl rfl rfl rfl (V_fieldA rfl rfl fo_30_4) ?_
                refine GT_st rfl rfl rfl rfl (V_load rfl rfl ag_3 (CellAt.item rfl)) ?_
                refine GT_st rfl rfl rfl rfl (V_geq rfl rfl rfl) ?_
                refine GT_st rfl rfl rfl rfl (V_move rfl rfl) ?_
                first | refine GT_splitNot (d := 52) rfl (fun q8 => ?_) (fun q8 => ?_) | refine GT_split (d := 52) rfl (fun q8 => ?_) (fun q8 => ?_) | refine GT_splitNotB (d := 52) rfl (fun q8 => ?_) (fun q8 => ?_) | refine GT_splitB (d := 52) rfl (fun q8 => ?_) (fun q8 => ?_)
                · skip
                  first | refine GT_st_g rfl rfl rfl rfl rfl rfl rfl (V_field rfl rfl fo_30_4) ?_ | refine GT_st_g rfl rfl rfl rfl rfl rfl rfl (V_fieldA rfl rfl fo_30_4) ?_
                  refine GT_st_g rfl rfl rfl rfl rfl rfl rfl (V_load rfl rfl ag_3 (CellAt.item rfl)) ?_
                  refine GT_st_g rfl rfl rfl rfl rfl rfl rfl (V_leq rfl rfl rfl) ?_
                  refine GT_st rfl rfl rfl rfl (V_pick_t rfl rfl rfl) ?_
                  refine GT_st rfl rfl rfl rfl (V_move rfl rfl) ?_
                  first | refine GT_splitNot (d := 57) rfl (fun q9 => ?_) (fun q9 => ?_) | refine GT_split (d := 57) rfl (fun q9 => ?_) (fun q9 => ?_) | refine GT_splitNotB (d := 57) rfl (fun q9 => ?_) (fun q9 => ?_) | refine GT_splitB (d := 57) rfl (fun q9 => ?_) (fun q9 => ?_)
                  · skip
                    first | refine GT_st_g rfl rfl rfl rfl rfl rfl rfl (V_field rfl rfl fo_30_5) ?_ | refine GT_st_g rfl rfl rfl rfl rfl rfl rfl (V_fieldA rfl rfl fo_30_5) ?_
                    refine GT_st_g rfl rfl rfl rfl rfl rfl rfl (V_load rfl rfl ag_3 (CellAt.item rfl)) ?_
                    refine GT_st_g rfl rfl rfl rfl rfl rfl rfl (V_geq rfl rfl rfl) ?_
                    refine GT_st rfl rfl rfl rfl (V_pick_t rfl rfl rfl) ?_
                    refine GT_st rfl rfl rfl rfl (V_move rfl rfl) ?_
                    first | refine GT_splitNot (d := 62) rfl (fun q10 => ?_) (fun q10 => ?_) | refine GT_split (d := 62) rfl (fun q10 => ?_) (fun q10 => ?_) | refine GT_splitNotB (d := 62) rfl (fun q10 => ?_) (fun q10 => ?_) | refine GT_splitB (d := 62) rfl (fun q10 => ?_) (fun q10 => ?_)
                    · skip
                      first | refine GT_st_g rfl rfl rfl rfl rfl rfl rfl (V_field rfl rfl fo_30_5) ?_ | refine GT_st_g rfl rfl rfl rfl rfl rfl rfl (V_fieldA rfl rfl fo_30_5) ?_
                      refine GT_st_g rfl rfl rfl rfl rfl rfl rfl (V_load rfl rfl ag_3 (CellAt.item rfl)) ?_
                      refine GT_st_g rfl rfl rfl rfl rfl rfl rfl (V_leq rfl rfl rfl) ?_
                      refine GT_st rfl rfl rfl rfl (V_pick_t rfl rfl rfl) ?_
                      refine GT_st rfl rfl rfl rfl (V_move rfl rfl) ?_
                      first | refine GT_splitNot (d := 67) rfl (fun q11 => ?_) (fun q11 => ?_) | refine GT_split (d := 67) rfl (fun q11 => ?_) (fun q11 => ?_) | refine GT_splitNotB (d := 67) rfl (fun q11 => ?_) (fun q11 => ?_) | refine GT_splitB (d := 67) rfl (fun q11 => ?_) (fun q11 => ?_)
                      · skip
                        first | refine GT_st_g rfl rfl rfl rfl rfl rfl rfl (V_field rfl rfl fo_30_6) ?_ | refine GT_st_g rfl rfl rfl rfl rfl rfl rfl (V_fieldA rfl rfl fo_30_6) ?_
                        refine GT_st_g rfl rfl rfl rfl rfl rfl rfl (V_load rfl rfl ag_2 (CellAt.item rfl)) ?_
                        refine GT_st_g rfl rfl rfl rfl rfl rfl rfl (V_geq rfl rfl rfl) ?_
                        refine GT_st rfl rfl rfl rfl (V_pick_t rfl rfl rfl) ?_
                        refine GT_st rfl rfl rfl rfl (V_move rfl rfl) ?_
                        first | refine GT_splitNot (d := 72) rfl (fun q12 => ?_) (fun q12 => ?_) | refine GT_split (d := 72) rfl (fun q12 => ?_) (fun q12 => ?_) | refine GT_splitNotB (d := 72) rfl (fun q12 => ?_) (fun q12 => ?_) | refine GT_splitB (d := 72) rfl (fun q12 => ?_) (fun q12 => ?_)
                        · skip
                          first | refine GT_st_g rfl rfl rfl rfl rfl rfl rfl (V_field rfl rfl fo_30_6) ?_ | refine GT_st_g rfl rfl rfl rfl rfl rfl rfl (V_fieldA rfl rfl fo_30_6) ?_
                          refine GT_st_g rfl rfl rfl rfl rfl rfl rfl (V_load rfl rfl ag_2 (CellAt.item rfl)) ?_
                          refine GT_st_g rfl rfl rfl rfl rfl rfl rfl (V_leq rfl rfl rfl) ?_
                          refine GT_st rfl rfl rfl rfl (V_pick_t rfl rfl rfl) ?_
                          refine GT_st rfl rfl rfl rfl (V_assign rfl rfl) ?_
                          refine GT_nil ?_
                          refine GE_ret Tryd.func52 rfl (fun w hw => ⟨?_, hw.nil⟩)
                          refine hd _ ?_; first | exact dF _ (fun e => by omega) | exact dF _ (fun e => by have := e.2.2.2.1; unfold tkOf at this; omega) | exact dT _ ⟨fun e => by omega, fun e => by refine ⟨⟨?_, ?_⟩, ?_, ?_, ?_, ⟨?_, ?_⟩, ⟨?_, ?_⟩, ⟨?_, ?_⟩, ?_, ?_⟩ <;> omega⟩
                        · skip
                          refine GT_skip rfl rfl rfl rfl rfl (by decide) rfl rfl ?_
                          refine GT_skip rfl rfl rfl rfl rfl (by decide) rfl rfl ?_
                          refine GT_skip rfl rfl rfl rfl rfl (by decide) rfl rfl ?_
                          refine GT_st rfl rfl rfl rfl (V_pick_f rfl rfl rfl) ?_
                          refine GT_st rfl rfl rfl rfl (V_assign rfl rfl) ?_
                          refine GT_nil ?_
                          refine GE_ret Tryd.func52 rfl (fun w hw => ⟨?_, hw.nil⟩)
                          refine hd _ ?_; first | exact dF _ (fun e => by omega) | exact dF _ (fun e => by have := e.2.2.2.1; unfold tkOf at this; omega) | exact dT _ ⟨fun e => by omega, fun e => by refine ⟨⟨?_, ?_⟩, ?_, ?_, ?_, ⟨?_, ?_⟩, ⟨?_, ?_⟩, ⟨?_, ?_⟩, ?_, ?_⟩ <;> omega⟩
                      · skip
                        refine GT_skip rfl rfl rfl rfl rfl (by decide) rfl rfl ?_
                        refine GT_skip rfl rfl rfl rfl rfl (by decide) rfl rfl ?_
                        refine GT_skip rfl rfl rfl rfl rfl (by decide) rfl rfl ?_
                        refine GT_st rfl rfl rfl rfl (V_pick_f rfl rfl rfl) ?_
                        refine GT_st rfl rfl rfl rfl (V_move rfl rfl) ?_
                        refine GT_skip rfl rfl rfl rfl rfl (by decide) rfl rfl ?_
                        refine GT_skip rfl rfl rfl rfl rfl (by decide) rfl rfl ?_
                        refine GT_skip rfl rfl rfl rfl rfl (by decide) rfl rfl ?_
                        refine GT_st rfl rfl rfl rfl (V_pick_f rfl rfl rfl) ?_
                        refine GT_st rfl rfl rfl rfl (V_assign rfl rfl) ?_
                        refine GT_nil ?_
                        refine GE_ret Tryd.func52 rfl (fun w hw => ⟨?_, hw.nil⟩)
                        refine hd _ ?_; first | exact dF _ (fun e => by omega) | exact dF _ (fun e => by have := e.2.2.2.1; unfold tkOf at this; omega) | exact dT _ ⟨fun e => by omega, fun e => by refine ⟨⟨?_, ?_⟩, ?_, ?_, ?_, ⟨?_, ?_⟩, ⟨?_, ?_⟩, ⟨?_, ?_⟩, ?_, ?_⟩ <;> omega⟩
                    · skip
                      refine GT_skip rfl rfl rfl rfl rfl (by decide) rfl rfl ?_
                      refine GT_skip rfl rfl rfl rfl rfl (by decide) rfl rfl ?_
                      refine GT_skip rfl rfl rfl rfl rfl (by decide) rfl rfl ?_
                      refine GT_st rfl rfl rfl rfl (V_pick_f rfl rfl rfl) ?_
                      refine GT_st rfl rfl rfl rfl (V_move rfl rfl) ?_
                      refine GT_skip rfl rfl rfl rfl rfl (by decide) rfl rfl ?_
                      refine GT_skip rfl rfl rfl rfl rfl (by decide) rfl rfl ?_
                      refine GT_skip rfl rfl rfl rfl rfl (by decide) rfl rfl ?_
                      refine GT_st rfl rfl rfl rfl (V_pick_f rfl rfl rfl) ?_
                      refine GT_st rfl rfl rfl rfl (V_move rfl rfl) ?_
                      refine GT_skip rfl rfl rfl rfl rfl (by decide) rfl rfl ?_
                      refine GT_skip rfl rfl rfl rfl rfl (by decide) rfl rfl ?_
                      refine GT_skip rfl rfl rfl rfl rfl (by decide) rfl rfl ?_
                      refine GT_st rfl rfl rfl rfl (V_pick_f rfl rfl rfl) ?_
                      refine GT_st rfl rfl rfl rfl (V_assign rfl rfl) ?_
                      refine GT_nil ?_
                      refine GE_ret Tryd.func52 rfl (fun w hw => ⟨?_, hw.nil⟩)
                      refine hd _ ?_; first | exact dF _ (fun e => by omega) | exact dF _ (fun e => by have := e.2.2.2.1; unfold tkOf at this; omega) | exact dT _ ⟨fun e => by omega, fun e => by refine ⟨⟨?_, ?_⟩, ?_, ?_, ?_, ⟨?_, ?_⟩, ⟨?_, ?_⟩, ⟨?_, ?_⟩, ?_, ?_⟩ <;> omega⟩
                  · skip
                    refine GT_skip rfl rfl rfl rfl rfl (by decide) rfl rfl ?_
                    refine GT_skip rfl rfl rfl rfl rfl (by decide) rfl rfl ?_
                    refine GT_skip rfl rfl rfl rfl rfl (by decide) rfl rfl ?_
                    refine GT_st rfl rfl rfl rfl (V_pick_f rfl rfl rfl) ?_
                    refine GT_st rfl rfl rfl rfl (V_move rfl rfl) ?_
                    refine GT_skip rfl rfl rfl rfl rfl (by decide) rfl rfl ?_
                    refine GT_skip rfl rfl rfl rfl rfl (by decide) rfl rfl ?_
                    refine GT_skip rfl rfl rfl rfl rfl (by decide) rfl rfl ?_
                    refine GT_st rfl rfl rfl rfl (V_pick_f rfl rfl rfl) ?_
                    refine GT_st rfl rfl rfl rfl (V_move rfl rfl) ?_
                    refine GT_skip rfl rfl rfl rfl rfl (by decide) rfl rfl ?_
                    refine GT_skip rfl rfl rfl rfl rfl (by decide) rfl rfl ?_
                    refine GT_skip rfl rfl rfl rfl rfl (by decide) rfl rfl ?_
                    refine GT_st rfl rfl rfl rfl (V_pick_f rfl rfl rfl) ?_
                    refine GT_st rfl rfl rfl rfl (V_move rfl rfl) ?_
                    refine GT_skip rfl rfl rfl rfl rfl (by decide) rfl rfl ?_
                    refine GT_skip rfl rfl rfl rfl rfl (by decide) rfl rfl ?_
                    refine GT_skip rfl rfl rfl rfl rfl (by decide) rfl rfl ?_
                    refine GT_st rfl rfl rfl rfl (V_pick_f rfl rfl rfl) ?_
                    refine GT_st rfl rfl rfl rfl (V_assign rfl rfl) ?_
                    refine GT_nil ?_
                    refine GE_ret Tryd.func52 rfl (fun w hw => ⟨?_, hw.nil⟩)
                    refine hd _ ?_; first | exact dF _ (fun e => by omega) | exact dF _ (fun e => by have := e.2.2.2.1; unfold tkOf at this; omega) | exact dT _ ⟨fun e => by omega, fun e => by refine ⟨⟨?_, ?_⟩, ?_, ?_, ?_, ⟨?_, ?_⟩, ⟨?_, ?_⟩, ⟨?_, ?_⟩, ?_, ?_⟩ <;> omega⟩
                · skip
                  refine GT_skip rfl rfl rfl rfl rfl (by decide) rfl rfl ?_
                  refine GT_skip rfl rfl rfl rfl rfl (by decide) rfl rfl ?_
                  refine GT_skip rfl rfl rfl rfl rfl (by decide) rfl rfl ?_
                  refine GT_st rfl rfl rfl rfl (V_pick_f rfl rfl rfl) ?_
                  refine GT_st rfl rfl rfl rfl (V_move rfl rfl) ?_
                  refine GT_skip rfl rfl rfl rfl rfl (by decide) rfl rfl ?_
                  refine GT_skip rfl rfl rfl rfl rfl (by decide) rfl rfl ?_
                  refine GT_skip rfl rfl rfl rfl rfl (by decide) rfl rfl ?_
                  refine GT_st rfl rfl rfl rfl (V_pick_f rfl rfl rfl) ?_
                  refine GT_st rfl rfl rfl rfl (V_move rfl rfl) ?_
                  refine GT_skip rfl rfl rfl rfl rfl (by decide) rfl rfl ?_
                  refine GT_skip rfl rfl rfl rfl rfl (by decide) rfl rfl ?_
                  refine GT_skip rfl rfl rfl rfl rfl (by decide) rfl rfl ?_
                  refine GT_st rfl rfl rfl rfl (V_pick_f rfl rfl rfl) ?_
                  refine GT_st rfl rfl rfl rfl (V_move rfl rfl) ?_
                  refine GT_skip rfl rfl rfl rfl rfl (by decide) rfl rfl ?_
                  refine GT_skip rfl rfl rfl rfl rfl (by decide) rfl rfl ?_
                  refine GT_skip rfl rfl rfl rfl rfl (by decide) rfl rfl ?_
                  refine GT_st rfl rfl rfl rfl (V_pick_f rfl rfl rfl) ?_
                  refine GT_st rfl rfl rfl rfl (V_move rfl rfl) ?_
                  refine GT_skip rfl rfl rfl rfl rfl (by decide) rfl rfl ?_
                  refine GT_skip rfl rfl rfl rfl rfl (by decide) rfl rfl ?_
                  refine GT_skip rfl rfl rfl rfl rfl (by decide) rfl rfl ?_
                  refine GT_st rfl rfl rfl rfl (V_pick_f rfl rfl rfl) ?_
                  refine GT_st rfl rfl rfl rfl (V_assign rfl rfl) ?_
                  refine GT_nil ?_
                  refine GE_ret Tryd.func52 rfl (fun w hw => ⟨?_, hw.nil⟩)
                  refine hd _ ?_; first | exact dF _ (fun e => by omega) | exact dF _ (fun e => by have := e.2.2.2.1; unfold tkOf at this; omega) | exact dT _ ⟨fun e => by omega, fun e => by refine ⟨⟨?_, ?_⟩, ?_, ?_, ?_, ⟨?_, ?_⟩, ⟨?_, ?_⟩, ⟨?_, ?_⟩, ?_, ?_⟩ <;> omega⟩
theorem C_rLong {x : Prt} (h : -4000000000000 ≤ lng x ∧ lng x ≤ 4000000000000) : Con0 Tryd.prog 56 [.agg #[I x.tk, I x.fr, I x.to, I x.gap, I x.inn, I x.out, I x.lev]] w (I (lng x)) := by
  unfold lng at h ⊢
  refine Ret_of (vs := [_]) hm none' Tryd.func56 rfl Tryd.ntmps56 rfl ?_
  dsimp only [slotsOf]
  refine GE_seq ?_
  refine GE_plain (.ld 0 [] (.st 1 .nil)) rfl ?_
  refine GT_box (z := [_, _, _, _, _, _, _]) rfl rfl rfl rfl rfl rfl rfl (fun _ => GR_nil) (fun b1 => ?_)
  refine GT_st rfl rfl rfl rfl (V_assign rfl rfl) ?_
  refine GT_nil ?_
  refine GE_seq ?_
  refine GE_plain (.st 0 (.st 1 (.st 2 (.st 3 (.st 4 (.st 5 .nil)))))) rfl ?_
  first | refine GT_st rfl rfl rfl rfl (V_field rfl rfl fo_30_2) ?_ | refine GT_st rfl rfl rfl rfl (V_fieldA rfl rfl fo_30_2) ?_
  refine GT_st rfl rfl rfl rfl (V_load rfl rfl ag_3 (CellAt.item rfl)) ?_
  first | refine GT_st rfl rfl rfl rfl (V_field rfl rfl fo_30_1) ?_ | refine GT_st rfl rfl rfl rfl (V_fieldA rfl rfl fo_30_1) ?_
  refine GT_st rfl rfl rfl rfl (V_load rfl rfl ag_3 (CellAt.item rfl)) ?_
  refine GT_st rfl rfl rfl rfl (V_sub rfl rfl rfl (wrap_i64 (by omega))) ?_
  refine GT_st rfl rfl rfl rfl (V_assign rfl rfl) ?_
  refine GT_nil ?_
  refine GE_ret Tryd.func56 rfl (fun w hw => ⟨?_, hw.nil⟩)
  rfl
variable {l : List Tk} {p : List Prt}
theorem C_rstarts (hg : Gd l p) (hp : RdL w 7 ePrt A2 p) : Con Tryd.prog 59 [.slice A2 p.length c2] w (fun y : Option Addr × Nat × Items => Own 1 3 eI (bgns p p.length) (.slice y.1 p.length y.2.1) y.2.2)
    (fun y => .tuple #[.slice y.1 p.length y.2.1, I (fin p)]) (fun y => y.2.2) := by
  refine Ret_of (vs := [_]) hm none' Tryd.func59 rfl Tryd.ntmps59 rfl ?_
  dsimp only [slotsOf]
  refine GE_seq ?_
  refine GE_plain (.st 0 (.st 1 .nil)) rfl ?_
  refine GT_st rfl rfl rfl rfl (V_assign rfl rfl) ?_
  refine GT_st rfl rfl rfl rfl (V_assign rfl rfl) ?_
  refine GT_nil ?_
  refine GE_seq ?_
  refine GE_plain (.st 0 .nil) rfl ?_
  refine GT_st rfl rfl rfl rfl (V_assign rfl rfl) ?_
  refine GT_nil ?_
  refine GE_seq ?_
  refine GE_plain (.st 0 .nil) rfl ?_
  refine GT_st rfl rfl rfl rfl (V_assign rfl rfl) ?_
  refine GT_nil ?_
  refine GE_seq ?_
  refine GE_seq ?_
  refine GE_plain (.st 0 .nil) rfl ?_
  refine GT_st rfl rfl rfl rfl (V_assign rfl rfl) ?_
  refine GT_nil ?_
  refine GE_block ?_
  refine GE_to (GE_loop (ι := Nat × Option Addr × Nat × Items) (fun x => p.length - x.1) (fun x => [(0, .slice A2 p.length c2), (4, .slice x.2.1 x.1 x.2.2.1), (5, I (fin (p.take x.1))), (6, I x.1)]) (fun x => x.2.2.2) (fun x => x.1 ≤ p.length ∧ Own 1 3 eI (bgns p x.1) (.slice x.2.1 x.1 x.2.2.1) x.2.2.2) ?_ (0, none, 0, []) ?_) ⟨rfl, rfl, rfl, rfl, trivial⟩ HS.nil
  · rintro ⟨k, A', c', I'⟩ ⟨hk, hO⟩ ih; dsimp only at hk hO ih ⊢; have hfb := gd_fin hg hk; have hmost := hg.most
    refine GE_seq ?_
    refine GE_seq ?_
    refine GE_plain (.st 0 (.st 1 (.st 2 (.st 3 .nil)))) rfl ?_
    refine GT_st rfl rfl rfl rfl (V_move rfl rfl) ?_
    refine GT_st rfl rfl rfl rfl (V_move rfl rfl) ?_
    refine GT_st rfl rfl rfl rfl (V_len rfl Tryd.underlying31 rfl) ?_
    refine GT_st rfl rfl rfl rfl (V_lss rfl rfl rfl) ?_
    refine GT_nil ?_
    first | refine GE_condNot rfl (fun q1 => ?_) (fun q1 => ?_) | refine GE_cond rfl (fun q1 => ?_) (fun q1 => ?_) | refine GE_condNotB rfl (fun q1 => ?_) (fun q1 => ?_) | refine GE_condB rfl (fun q1 => ?_) (fun q1 => ?_)
    · have hkl : k < p.length := (by omega); have hpr := gd_prt hg hkl; obtain ⟨hb1, hb2, hb3, hb4⟩ := gd_bgn hg hkl
      refine GE_skip ?_
      refine GE_seq ?_
      refine GE_block ?_
      refine GE_seq ?_
      refine GE_slots (L' := [(0, _), (4, _), (5, _), (6, _)]) ⟨rfl, rfl, rfl, rfl, trivial⟩ ?_
      refine GE_plain (.st 0 (.st 1 (.st 2 (.st 3 (.st 4 (.st 5 (.st 6 (.st 7 (.ld 8 [] (.ld 9 [] (.ld 10 [] .nil))))))))))) rfl ?_
      refine GT_st rfl rfl rfl rfl (V_move rfl rfl) ?_
      refine GT_st rfl rfl rfl rfl (V_move rfl rfl) ?_
      refine GT_st rfl rfl rfl rfl (V_move rfl rfl) ?_
      refine GT_st rfl rfl rfl rfl (V_move rfl rfl) ?_
      refine GT_st rfl rfl rfl rfl (V_index rfl rfl rfl Tryd.underlying31 sz_30 (k := k) rfl hkl (hp.isSome hkl)) ?_
      first | refine GT_st rfl rfl rfl rfl (V_field rfl rfl fo_30_3) ?_ | refine GT_st rfl rfl rfl rfl (V_fieldA rfl rfl fo_30_3) ?_
      refine GT_st rfl rfl rfl rfl (V_load rfl rfl ag_3 (hp.at1 noM hkl (show _ = some (I (pt p k).gap) from rfl))) ?_
      refine GT_st rfl rfl rfl rfl (V_add rfl rfl rfl ((wrap_i64 (by omega)).trans hb4.symm)) ?_
      refine GT_buildSlice (z := [_]) rfl rfl rfl rfl rfl Tryd.underlying62 zc_3 sz_3 (by decide) rfl rfl (fun _ => GR_nil) (fun b21 => ?_)
      refine GT_append (enc := eI) (m := [bgn p k]) rfl rfl rfl rfl rfl rfl rfl hO (fun w m => RdL.own' m eI_len) Tryd.underlying62 zc_3 sz_3 ⟨rfl, by decide⟩ by_3 ⟨by rw [bgns_len]; simp only [List.length_singleton]; omega, by rw [bgns_len]; simp only [List.length_singleton]; omega⟩ eI_len eI_one (fun _ _ _ _ => GR_nil) (fun A2' c2' I2' hO2 => ?_)
      rw [← bgns_succ, bgns_len] at hO2 ⊢
      refine GT_ldv rfl rfl rfl rfl rfl (V_assign rfl rfl) (GR_nil) ?_
      refine GT_nil ?_
      refine GE_slots (L' := [(0, _), (4, _), (6, _)]) ⟨rfl, rfl, rfl, trivial⟩ ?_
      refine GE_drawn (.st 0 (.st 1 (.st 2 (.st 3 (.st 4 (.st 5 (.st 6 (.st 7 (.ld 8 [0, 1, 2, 3] (.st 9 (.st 10 .nil))))))))))) [8] (by decide +kernel) ?_
      refine GT_st rfl rfl rfl rfl (V_move rfl rfl) ?_
      refine GT_st rfl rfl rfl rfl (V_move rfl rfl) ?_
      refine GT_st rfl rfl rfl rfl (V_index rfl rfl rfl Tryd.underlying62 sz_3 (k := k) rfl (by omega) (hO2.isSome (k := k) (by rw [bgns_len]; omega))) ?_
      refine GT_st rfl rfl rfl rfl (V_load rfl rfl ag_3 (CellAt.own0 (k := k) hO2 eI_len (by rw [bgns_len]; omega) (by rw [bgns_get (by omega)]; rfl))) ?_
      refine GT_st rfl rfl rfl rfl (V_move rfl rfl) ?_
      refine GT_st rfl rfl rfl rfl (V_move rfl rfl) ?_
      refine GT_st rfl rfl rfl rfl (V_index rfl rfl rfl Tryd.underlying31 sz_30 (k := k) rfl hkl (hp.isSome hkl)) ?_
      refine GT_st rfl rfl rfl rfl (V_loadN (vs := [_, _, _, _, _, _, _]) rfl rfl ag_30 sz_30 rfl (show CellsAt _ _ _ (ePrt (pt p k)) from hp.ats noM hkl)) ?_
      refine GT_call0 rfl rfl rfl rfl rfl rfl rfl rfl rn_56 (fun w hw => C_rLong (x := pt p k) (by omega)) (GR_cons rfl rfl rfl rfl (V_move rfl rfl) (GR_cons rfl rfl rfl rfl (V_move rfl rfl) (GR_cons rfl rfl rfl rfl (V_index rfl rfl rfl Tryd.underlying62 sz_3 (k := k) rfl (by omega) (hO2.isSome (k := k) (by rw [bgns_len]; omega))) (GR_cons rfl rfl rfl rfl (V_load rfl rfl ag_3 (CellAt.own0 (k := k) hO2 eI_len (by rw [bgns_len]; omega) (by rw [bgns_get (by omega)]; rfl))) (GR_nil))))) ?_
      refine GT_st rfl rfl rfl rfl (V_add rfl rfl rfl (wrap_i64 (by omega))) ?_
      refine GT_st rfl rfl rfl rfl (V_assign rfl rfl) ?_
      refine GT_nil ?_
      refine GE_inBlock ?_
      refine GE_slots (L' := [(0, _), (4, _), (5, _), (6, _)]) ⟨rfl, rfl, rfl, rfl, trivial⟩ ?_
      refine GE_plain (.st 0 (.st 1 (.ld 2 [] .nil))) rfl ?_
      refine GT_st rfl rfl rfl rfl (V_move rfl rfl) ?_
      refine GT_st rfl rfl rfl rfl (V_add rfl rfl rfl (wrap_i64 (by omega))) ?_
      refine GT_ldv rfl rfl rfl rfl rfl (V_assign rfl rfl) (GR_nil) ?_
      refine GT_nil ?_
      exact GE_to (ih (k + 1, A2', c2', I2') ⟨by dsimp only; omega, hO2⟩ (by dsimp only; omega)) ⟨rfl, rfl, lookI rfl (by rw [fin_take hkl, hb3]), rfl, trivial⟩ HS.last
    · obtain rfl : k = p.length := (by omega); rw [fin_all]
      refine GE_exit rfl ?_
      refine GE_seq ?_
      refine GE_slots (L' := [(4, _), (5, _)]) ⟨rfl, rfl, trivial⟩ ?_
      refine GE_plain (.st 0 (.st 1 (.st 2 (.st 3 .nil)))) rfl ?_
      refine GT_st rfl rfl rfl rfl (V_move rfl rfl) ?_
      refine GT_st rfl rfl rfl rfl (V_move rfl rfl) ?_
      refine GT_st rfl rfl rfl rfl (V_assign rfl rfl) ?_
      refine GT_st rfl rfl rfl rfl (V_assign rfl rfl) ?_
      refine GT_nil ?_
      refine GE_ret Tryd.func59 ⟨_, _, rfl, rfl, rfl⟩ (fun w hw => ?_)
      exact ⟨(A', c', I'), hO, rfl, hw⟩
  · exact ⟨Nat.zero_le _, Own.nil⟩
set_option maxRecDepth 20000 in
set_option maxHeartbeats 2000000 in
theorem C_rpossible (hg : Gd l p) (hp : RdL w 7 ePrt A2 p) : Con0 Tryd.prog 53 [.slice A2 p.length c2] w (.bool (decide (Poss p))) := by
  refine Ret_of (vs := [_]) hm none' Tryd.func53 rfl Tryd.ntmps53 rfl ?_
  dsimp only [slotsOf]
  refine GE_seq ?_
  refine GE_plain (.st 0 .nil) rfl ?_
  refine GT_st rfl rfl rfl rfl (V_assign rfl rfl) ?_
  refine GT_nil ?_
  refine GE_seq ?_
  refine GE_plain (.st 0 (.ld 1 [] (.st 2 (.st 3 (.st 4 (.st 5 (.st 6 .nil))))))) rfl ?_
  refine GT_st rfl rfl rfl rfl (V_move rfl rfl) ?_
  refine GT_call rfl rfl rfl rfl rfl rfl rfl rfl rn_59 (fun w hw => C_rstarts hg (hp.sh hw)) (fun _ _ => GR_nil) (fun y hy => ?_)
  refine GT_st rfl rfl rfl rfl (V_move rfl rfl) ?_
  refine GT_st rfl rfl rfl rfl (V_extract rfl rfl rfl) ?_
  refine GT_st rfl rfl rfl rfl (V_extract rfl rfl rfl) ?_
  refine GT_st rfl rfl rfl rfl (V_assign rfl rfl) ?_
  refine GT_st rfl rfl rfl rfl (V_assign rfl rfl) ?_
  refine GT_nil ?_
  refine GE_seq ?_
  refine GE_seq ?_
  refine GE_slots (L' := [(0, _), (3, _), (4, _)]) ⟨rfl, rfl, rfl, trivial⟩ ?_
  refine GE_plain (.st 0 .nil) rfl ?_
  refine GT_st rfl rfl rfl rfl (V_assign rfl rfl) ?_
  refine GT_nil ?_
  refine GE_block ?_
  refine GE_to (GE_loop (ι := Nat) (fun i => p.length - i) (fun i => [(0, .slice A2 p.length c2), (3, .slice y.1 p.length y.2.1), (4, I (fin p)), (5, I i)]) (fun i => y.2.2) (fun i => i ≤ p.length ∧ ∀ j, j < i → posOk p j) ?_ 0 ?_) ⟨rfl, rfl, rfl, rfl, trivial⟩ HS.last
  · rintro i ⟨hi, hps⟩ ih; have hmost := hg.most; have bl := bgns_len p p.length
    refine GE_seq ?_
    refine GE_seq ?_
    refine GE_plain (.st 0 (.st 1 (.st 2 (.st 3 .nil)))) rfl ?_
    refine GT_st rfl rfl rfl rfl (V_move rfl rfl) ?_
    refine GT_st rfl rfl rfl rfl (V_move rfl rfl) ?_
    refine GT_st rfl rfl rfl rfl (V_len rfl Tryd.underlying31 rfl) ?_
    refine GT_st rfl rfl rfl rfl (V_lss rfl rfl rfl) ?_
    refine GT_nil ?_
    first | refine GE_condNot rfl (fun q1 => ?_) (fun q1 => ?_) | refine GE_cond rfl (fun q1 => ?_) (fun q1 => ?_) | refine GE_condNotB rfl (fun q1 => ?_) (fun q1 => ?_) | refine GE_condB rfl (fun q1 => ?_) (fun q1 => ?_)
    · have hil : i < p.length := (by omega); have hpr := gd_prt hg hil; have hpr1 := gd_prt hg (i := i - 1) (by omega); have hpr2 := gd_prt hg (i := i - 2) (by omega); have hbb := gd_bgn hg hil; have hb1 := gd_bgn hg (i := i - 1) (by omega); have hb2 := gd_bgn hg (i := i - 2) (by omega); have hbs : 0 < i → bgn p i = en p (i - 1) + (pt p i).gap := (fun h0 => bgn_succ h0 hil)
      refine GE_skip ?_
      refine GE_seq ?_
      refine GE_block ?_
      refine GE_seq ?_
      refine GE_slots (L' := [(0, _), (3, _), (4, _), (5, _)]) ⟨rfl, rfl, rfl, rfl, trivial⟩ ?_
      refine GE_drawn (.st 0 (.st 1 (.st 2 (.st 3 (.st 4 (.st 5 (.st 6 (.st 7 (.st 8 (.st 9 (.st 10 (.st 11 (.st 12 (.st 13 (.st 14 (.st 15 (.st 16 (.st 17 (.st 18 (.st 19 (.st 20 (.st 21 (.ld 22 [13, 14, 15, 16, 17] (.st 23 (.st 24 (.st 25 (.st 26 (.st 27 (.st 28 (.st 29 (.st 30 (.st 31 (.st 32 (.st 33 (.st 34 (.st 35 (.ld 36 [26, 27, 28, 29, 30] (.st 37 (.st 38 (.st 39 (.st 40 (.st 41 (.st 42 (.st 43 (.st 44 (.st 45 (.st 46 (.st 47 (.st 48 (.st 49 (.st 50 (.st 51 (.st 52 (.st 53 (.st 54 (.st 55 (.st 56 (.st 57 (.st 58 (.st 59 (.ld 60 [46, 47, 48, 49, 50, 51, 52, 53, 54] (.st 61 (.st 62 (.st 63 (.st 64 .nil))))))))))))))))))))))))))))))))))))))))))))))))))))))))))))))))) [22, 36, 60] (by decide +kernel) ?_
      refine GT_st rfl rfl rfl rfl (V_move rfl rfl) ?_
      refine GT_st rfl rfl rfl rfl (V_eql rfl rfl rfl) ?_
      refine GT_st rfl rfl rfl rfl (V_move rfl rfl) ?_
      first | refine GT_splitNot (d := 19) rfl (fun q2 => ?_) (fun q2 => ?_) | refine GT_split (d := 19) rfl (fun q2 => ?_) (fun q2 => ?_) | refine GT_splitNotB (d := 19) rfl (fun q2 => ?_) (fun q2 => ?_) | refine GT_splitB (d := 19) rfl (fun q2 => ?_) (fun q2 => ?_)
      · skip
        refine GT_st_g rfl rfl rfl rfl rfl rfl rfl (V_move rfl rfl) ?_
        refine GT_st_g rfl rfl rfl rfl rfl rfl rfl (V_move rfl rfl) ?_
        refine GT_st_g rfl rfl rfl rfl rfl rfl rfl (V_index rfl rfl rfl Tryd.underlying62 sz_3 (k := i) rfl hil (hy.isSome (k := i) (by omega))) ?_
        refine GT_st_g rfl rfl rfl rfl rfl rfl rfl (V_load rfl rfl ag_3 (CellAt.own0 (k := i) hy eI_len (by omega) (by rw [bgns_get hil]; rfl))) ?_
        refine GT_st_g rfl rfl rfl rfl rfl rfl rfl (V_lss rfl rfl rfl) ?_
        refine GT_st rfl rfl rfl rfl (V_pick_t rfl rfl rfl) ?_
        refine GT_st rfl rfl rfl rfl (V_move rfl rfl) ?_
        first | refine GT_splitNot (d := 26) rfl (fun q3 => ?_) (fun q3 => ?_) | refine GT_split (d := 26) rfl (fun q3 => ?_) (fun q3 => ?_) | refine GT_splitNotB (d := 26) rfl (fun q3 => ?_) (fun q3 => ?_) | refine GT_splitB (d := 26) rfl (fun q3 => ?_) (fun q3 => ?_)
        · skip
          refine GT_skip rfl rfl rfl rfl rfl (by decide) rfl rfl ?_
          refine GT_skip rfl rfl rfl rfl rfl (by decide) rfl rfl ?_
          refine GT_skip rfl rfl rfl rfl rfl (by decide) rfl rfl ?_
          refine GT_skip rfl rfl rfl rfl rfl (by decide) rfl rfl ?_
          refine GT_skip rfl rfl rfl rfl rfl (by decide) rfl rfl ?_
          refine GT_skip rfl rfl rfl rfl rfl (by decide) rfl rfl ?_
          refine GT_skip rfl rfl rfl rfl rfl (by decide) rfl rfl ?_
          refine GT_skip rfl rfl rfl rfl rfl (by decide) rfl rfl ?_
          refine GT_skip rfl rfl rfl rfl rfl (by decide) rfl rfl ?_
          refine GT_skip rfl rfl rfl rfl rfl (by decide) rfl rfl ?_
          refine GT_skip rfl rfl rfl rfl rfl (by decide) rfl rfl ?_
          refine GT_skip rfl rfl rfl rfl rfl (by decide) rfl rfl ?_
          refine GT_skip_ld rfl rfl rfl rfl rfl (by decide) rfl rfl rfl (GR_skip rfl rfl rfl rfl rfl (by decide) rfl rfl (GR_skip rfl rfl rfl rfl rfl (by decide) rfl rfl (GR_skip rfl rfl rfl rfl rfl (by decide) rfl rfl (GR_skip rfl rfl rfl rfl rfl (by decide) rfl rfl (GR_skip rfl rfl rfl rfl rfl (by decide) rfl rfl (GR_nil)))))) ?_
          refine GT_skip rfl rfl rfl rfl rfl (by decide) rfl rfl ?_
          refine GT_skip rfl rfl rfl rfl rfl (by decide) rfl rfl ?_
          refine GT_skip rfl rfl rfl rfl rfl (by decide) rfl rfl ?_
          refine GT_skip rfl rfl rfl rfl rfl (by decide) rfl rfl ?_
          refine GT_skip rfl rfl rfl rfl rfl (by decide) rfl rfl ?_
          refine GT_skip rfl rfl rfl rfl rfl (by decide) rfl rfl ?_
          refine GT_skip rfl rfl rfl rfl rfl (by decide) rfl rfl ?_
          refine GT_skip rfl rfl rfl rfl rfl (by decide) rfl rfl ?_
          refine GT_skip rfl rfl rfl rfl rfl (by decide) rfl rfl ?_
          refine GT_skip rfl rfl rfl rfl rfl (by decide) rfl rfl ?_
          refine GT_skip rfl rfl rfl rfl rfl (by decide) rfl rfl ?_
          refine GT_skip rfl rfl rfl rfl rfl (by decide) rfl rfl ?_
          refine GT_skip rfl rfl rfl rfl rfl (by decide) rfl rfl ?_
          refine GT_skip_ld rfl rfl rfl rfl rfl (by decide) rfl rfl rfl (GR_skip rfl rfl rfl rfl rfl (by decide) rfl rfl (GR_skip rfl rfl rfl rfl rfl (by decide) rfl rfl (GR_skip rfl rfl rfl rfl rfl (by decide) rfl rfl (GR_skip rfl rfl rfl rfl rfl (by decide) rfl rfl (GR_skip rfl rfl rfl rfl rfl (by decide) rfl rfl (GR_nil)))))) ?_
          refine GT_skip rfl rfl rfl rfl rfl (by decide) rfl rfl ?_
          refine GT_skip rfl rfl rfl rfl rfl (by decide) rfl rfl ?_
          refine GT_skip rfl rfl rfl rfl rfl (by decide) rfl rfl ?_
          refine GT_skip rfl rfl rfl rfl rfl (by decide) rfl rfl ?_
          refine GT_st rfl rfl rfl rfl (V_pick_t rfl rfl rfl) ?_
          refine GT_st rfl rfl rfl rfl (V_move rfl rfl) ?_
          refine GT_skip rfl rfl rfl rfl rfl (by decide) rfl rfl ?_
          refine GT_skip rfl rfl rfl rfl rfl (by decide) rfl rfl ?_
          refine GT_skip rfl rfl rfl rfl rfl (by decide) rfl rfl ?_
          refine GT_skip rfl rfl rfl rfl rfl (by decide) rfl rfl ?_
          refine GT_skip rfl rfl rfl rfl rfl (by decide) rfl rfl ?_
          refine GT_skip rfl rfl rfl rfl rfl (by decide) rfl rfl ?_
          refine GT_skip rfl rfl rfl rfl rfl (by decide) rfl rfl ?_
          refine GT_skip rfl rfl rfl rfl rfl (by decide) rfl rfl ?_
          refine GT_skip rfl rfl rfl rfl rfl (by decide) rfl rfl ?_
          refine GT_skip rfl rfl rfl rfl rfl (by decide) rfl rfl ?_
          refine GT_skip rfl rfl rfl rfl rfl (by decide) rfl rfl ?_
          refine GT_skip rfl rfl rfl rfl rfl (by decide) rfl rfl ?_
          refine GT_skip rfl rfl rfl rfl rfl (by decide) rfl rfl ?_
          refine GT_skip rfl rfl rfl rfl rfl (by decide) rfl rfl ?_
          refine GT_skip rfl rfl rfl rfl rfl (by decide) rfl rfl ?_
          refine GT_skip rfl rfl rfl rfl rfl (by decide) rfl rfl ?_
          refine GT_skip rfl rfl rfl rfl rfl (by decide) rfl rfl ?_
          refine GT_skip_ld rfl rfl rfl rfl rfl (by decide) rfl rfl rfl (GR_skip rfl rfl rfl rfl rfl (by decide) rfl rfl (GR_skip rfl rfl rfl rfl rfl (by decide) rfl rfl (GR_skip rfl rfl rfl rfl rfl (by decide) rfl rfl (GR_skip rfl rfl rfl rfl rfl (by decide) rfl rfl (GR_skip rfl rfl rfl rfl rfl (by decide) rfl rfl (GR_skip rfl rfl rfl rfl rfl (by decide) rfl rfl (GR_skip rfl rfl rfl rfl rfl (by decide) rfl rfl (GR_skip rfl rfl rfl rfl rfl (by decide) rfl rfl (GR_skip rfl rfl rfl rfl rfl (by decide) rfl rfl (GR_nil)))))))))) ?_
          refine GT_skip rfl rfl rfl rfl rfl (by decide) rfl rfl ?_
          refine GT_skip rfl rfl rfl rfl rfl (by decide) rfl rfl ?_
          refine GT_skip rfl rfl rfl rfl rfl (by decide) rfl rfl ?_
          refine GT_st rfl rfl rfl rfl (V_pick_t rfl rfl rfl) ?_
          refine GT_nil ?_
          refine GE_cond_t rfl ?_
          refine GE_seq ?_
          refine GE_slots (L' := []) trivial ?_
          refine GE_plain (.st 0 .nil) rfl ?_
          refine GT_st rfl rfl rfl rfl (V_assign rfl rfl) ?_
          refine GT_nil ?_
          refine GE_ret Tryd.func53 rfl (fun w hw => ⟨?_, hw.nil⟩)
          first | (rw [decide_eq_false]; intro hP; have := hP.1 i hil; unfold posOk at this; omega) | (refine congrArg Value.bool (decide_eq_decide.2 ⟨fun h => ⟨fun j hj => hps j (by omega), h⟩, fun h => h.2⟩))
        · skip
          refine GT_st_g rfl rfl rfl rfl rfl rfl rfl (V_move rfl rfl) ?_
          refine GT_st_g rfl rfl rfl rfl rfl rfl rfl (V_gtr rfl rfl rfl) ?_
          refine GT_st_g rfl rfl rfl rfl rfl rfl rfl (V_move rfl rfl) ?_
          first | refine GT_splitNot (d := 29) rfl (fun q4 => ?_) (fun q4 => ?_) | refine GT_split (d := 29) rfl (fun q4 => ?_) (fun q4 => ?_) | refine GT_splitNotB (d := 29) rfl (fun q4 => ?_) (fun q4 => ?_) | refine GT_splitB (d := 29) rfl (fun q4 => ?_) (fun q4 => ?_)
          · skip
            refine GT_st_g rfl rfl rfl rfl rfl rfl rfl (V_move rfl rfl) ?_
            refine GT_st_g rfl rfl rfl rfl rfl rfl rfl (V_move rfl rfl) ?_
            refine GT_st_g rfl rfl rfl rfl rfl rfl rfl (V_index rfl rfl rfl Tryd.underlying31 sz_30 (k := i) rfl hil (hp.isSome hil)) ?_
            first | refine GT_st_g rfl rfl rfl rfl rfl rfl rfl (V_field rfl rfl fo_30_3) ?_ | refine GT_st_g rfl rfl rfl rfl rfl rfl rfl (V_fieldA rfl rfl fo_30_3) ?_
            refine GT_st_g rfl rfl rfl rfl rfl rfl rfl (V_load rfl rfl ag_3 (hp.at1 noM hil (show _ = some (I (pt p i).gap) from rfl))) ?_
            refine GT_st_g rfl rfl rfl rfl rfl rfl rfl (V_move rfl rfl) ?_
            refine GT_st_g rfl rfl rfl rfl rfl rfl rfl (V_move rfl rfl) ?_
            refine GT_st_g rfl rfl rfl rfl rfl rfl rfl (V_index rfl rfl rfl Tryd.underlying31 sz_30 (k := i) rfl hil (hp.isSome hil)) ?_
            refine GT_st_g rfl rfl rfl rfl rfl rfl rfl (V_loadN (vs := [_, _, _, _, _, _, _]) rfl rfl ag_30 sz_30 rfl (show CellsAt _ _ _ (ePrt (pt p i)) from hp.ats noM hil)) ?_
            refine GT_call0_g rfl rfl rfl rfl rfl rfl rfl rfl rfl rfl rfl rn_56 (fun w hw => C_rLong (x := pt p i) (by omega)) (GR_cons_g rfl rfl rfl rfl rfl rfl rfl (V_move rfl rfl) (GR_cons_g rfl rfl rfl rfl rfl rfl rfl (V_move rfl rfl) (GR_cons_g rfl rfl rfl rfl rfl rfl rfl (V_index rfl rfl rfl Tryd.underlying31 sz_30 (k := i) rfl hil (hp.isSome hil)) (GR_cons_g rfl rfl rfl rfl rfl rfl rfl ((by first | exact V_field rfl rfl fo_30_3 | exact V_fieldA rfl rfl fo_30_3)) (GR_cons_g rfl rfl rfl rfl rfl rfl rfl (V_load rfl rfl ag_3 (hp.at1 noM hil (show _ = some (I (pt p i).gap) from rfl))) (GR_nil)))))) ?_
            refine GT_st_g rfl rfl rfl rfl rfl rfl rfl (V_neg rfl rfl (wrap_i64 (by omega))) ?_
            refine GT_st_g rfl rfl rfl rfl rfl rfl rfl (V_lss rfl rfl rfl) ?_
            refine GT_st_g rfl rfl rfl rfl rfl rfl rfl (V_move rfl rfl) ?_
            first | refine GT_splitNot (d := 42) rfl (fun q5 => ?_) (fun q5 => ?_) | refine GT_split (d := 42) rfl (fun q5 => ?_) (fun q5 => ?_) | refine GT_splitNotB (d := 42) rfl (fun q5 => ?_) (fun q5 => ?_) | refine GT_splitB (d := 42) rfl (fun q5 => ?_) (fun q5 => ?_)
            · skip
              refine GT_skip rfl rfl rfl rfl rfl (by decide) rfl rfl ?_
              refine GT_skip rfl rfl rfl rfl rfl (by decide) rfl rfl ?_
              refine GT_skip rfl rfl rfl rfl rfl (by decide) rfl rfl ?_
              refine GT_skip rfl rfl rfl rfl rfl (by decide) rfl rfl ?_
              refine GT_skip rfl rfl rfl rfl rfl (by decide) rfl rfl ?_
              refine GT_skip rfl rfl rfl rfl rfl (by decide) rfl rfl ?_
              refine GT_skip rfl rfl rfl rfl rfl (by decide) rfl rfl ?_
              refine GT_skip rfl rfl rfl rfl rfl (by decide) rfl rfl ?_
              refine GT_skip rfl rfl rfl rfl rfl (by decide) rfl rfl ?_
              refine GT_skip rfl rfl rfl rfl rfl (by decide) rfl rfl ?_
              refine GT_skip_ld rfl rfl rfl rfl rfl (by decide) rfl rfl rfl (GR_skip rfl rfl rfl rfl rfl (by decide) rfl rfl (GR_skip rfl rfl rfl rfl rfl (by decide) rfl rfl (GR_skip rfl rfl rfl rfl rfl (by decide) rfl rfl (GR_skip rfl rfl rfl rfl rfl (by decide) rfl rfl (GR_skip rfl rfl rfl rfl rfl (by decide) rfl rfl (GR_nil)))))) ?_
              refine GT_skip rfl rfl rfl rfl rfl (by decide) rfl rfl ?_
              refine GT_skip rfl rfl rfl rfl rfl (by decide) rfl rfl ?_
              refine GT_st_g rfl rfl rfl rfl rfl rfl rfl (V_pick_t rfl rfl rfl) ?_
              refine GT_st_g rfl rfl rfl rfl rfl rfl rfl (V_pick_t rfl rfl rfl) ?_
              refine GT_st rfl rfl rfl rfl (V_pick_f rfl rfl rfl) ?_
              refine GT_st rfl rfl rfl rfl (V_move rfl rfl) ?_
              refine GT_skip rfl rfl rfl rfl rfl (by decide) rfl rfl ?_
              refine GT_skip rfl rfl rfl rfl rfl (by decide) rfl rfl ?_
              refine GT_skip rfl rfl rfl rfl rfl (by decide) rfl rfl ?_
              refine GT_skip rfl rfl rfl rfl rfl (by decide) rfl rfl ?_
              refine GT_skip rfl rfl rfl rfl rfl (by decide) rfl rfl ?_
              refine GT_skip rfl rfl rfl rfl rfl (by decide) rfl rfl ?_
              refine GT_skip rfl rfl rfl rfl rfl (by decide) rfl rfl ?_
              refine GT_skip rfl rfl rfl rfl rfl (by decide) rfl rfl ?_
              refine GT_skip rfl rfl rfl rfl rfl (by decide) rfl rfl ?_
              refine GT_skip rfl rfl rfl rfl rfl (by decide) rfl rfl ?_
              refine GT_skip rfl rfl rfl rfl rfl (by decide) rfl rfl ?_
              refine GT_skip rfl rfl rfl rfl rfl (by decide) rfl rfl ?_
              refine GT_skip rfl rfl rfl rfl rfl (by decide) rfl rfl ?_
              refine GT_skip rfl rfl rfl rfl rfl (by decide) rfl rfl ?_
              refine GT_skip rfl rfl rfl rfl rfl (by decide) rfl rfl ?_
              refine GT_skip rfl rfl rfl rfl rfl (by decide) rfl rfl ?_
              refine GT_skip rfl rfl rfl rfl rfl (by decide) rfl rfl ?_
              refine GT_skip_ld rfl rfl rfl rfl rfl (by decide) rfl rfl rfl (GR_skip rfl rfl rfl rfl rfl (by decide) rfl rfl (GR_skip rfl rfl rfl rfl rfl (by decide) rfl rfl (GR_skip rfl rfl rfl rfl rfl (by decide) rfl rfl (GR_skip rfl rfl rfl rfl rfl (by decide) rfl rfl (GR_skip rfl rfl rfl rfl rfl (by decide) rfl rfl (GR_skip rfl rfl rfl rfl rfl (by decide) rfl rfl (GR_skip rfl rfl rfl rfl rfl (by decide) rfl rfl (GR_skip rfl rfl rfl rfl rfl (by decide) rfl rfl (GR_skip rfl rfl rfl rfl rfl (by decide) rfl rfl (GR_nil)))))))))) ?_
              refine GT_skip rfl rfl rfl rfl rfl (by decide) rfl rfl ?_
              refine GT_skip rfl rfl rfl rfl rfl (by decide) rfl rfl ?_
              refine GT_skip rfl rfl rfl rfl rfl (by decide) rfl rfl ?_
              refine GT_st rfl rfl rfl rfl (V_pick_t rfl rfl rfl) ?_
              refine GT_nil ?_
              refine GE_cond_t rfl ?_
              refine GE_seq ?_
              refine GE_slots (L' := []) trivial ?_
              refine GE_plain (.st 0 .nil) rfl ?_
              refine GT_st rfl rfl rfl rfl (V_assign rfl rfl) ?_
              refine GT_nil ?_
              refine GE_ret Tryd.func53 rfl (fun w hw => ⟨?_, hw.nil⟩)
              first | (rw [decide_eq_false]; intro hP; have := hP.1 i hil; unfold posOk at this; omega) | (refine congrArg Value.bool (decide_eq_decide.2 ⟨fun h => ⟨fun j hj => hps j (by omega), h⟩, fun h => h.2⟩))
            · skip
              refine GT_st_g rfl rfl rfl rfl rfl rfl rfl (V_move rfl rfl) ?_
              refine GT_st_g rfl rfl rfl rfl rfl rfl rfl (V_move rfl rfl) ?_
              refine GT_st_g rfl rfl rfl rfl rfl rfl rfl (V_index rfl rfl rfl Tryd.underlying31 sz_30 (k := i) rfl hil (hp.isSome hil)) ?_
              first | refine GT_st_g rfl rfl rfl rfl rfl rfl rfl (V_field rfl rfl fo_30_3) ?_ | refine GT_st_g rfl rfl rfl rfl rfl rfl rfl (V_fieldA rfl rfl fo_30_3) ?_
              refine GT_st_g rfl rfl rfl rfl rfl rfl rfl (V_load rfl rfl ag_3 (hp.at1 noM hil (show _ = some (I (pt p i).gap) from rfl))) ?_
              refine GT_st_g rfl rfl rfl rfl rfl rfl rfl (V_move rfl rfl) ?_
              refine GT_st_g rfl rfl rfl rfl rfl rfl rfl (V_move rfl rfl) ?_
              refine GT_st_g rfl rfl rfl rfl rfl rfl rfl (V_sub rfl rfl rfl (wrap_i64 (by omega))) ?_
              refine GT_st_g rfl rfl rfl rfl rfl rfl rfl (V_index rfl rfl rfl Tryd.underlying31 sz_30 (k := i - 1) (by omega) (by omega) (hp.isSome (k := i - 1) (by omega))) ?_
              refine GT_st_g rfl rfl rfl rfl rfl rfl rfl (V_loadN (vs := [_, _, _, _, _, _, _]) rfl rfl ag_30 sz_30 rfl (show CellsAt _ _ _ (ePrt (pt p (i - 1))) from hp.ats noM (by omega))) ?_
              refine GT_call0_g rfl rfl rfl rfl rfl rfl rfl rfl rfl rfl rfl rn_56 (fun w hw => C_rLong (x := pt p (i - 1)) (by omega)) (GR_cons_g rfl rfl rfl rfl rfl rfl rfl (V_move rfl rfl) (GR_cons_g rfl rfl rfl rfl rfl rfl rfl (V_move rfl rfl) (GR_cons_g rfl rfl rfl rfl rfl rfl rfl (V_index rfl rfl rfl Tryd.underlying31 sz_30 (k := i) rfl hil (hp.isSome hil)) (GR_cons_g rfl rfl rfl rfl rfl rfl rfl ((by first | exact V_field rfl rfl fo_30_3 | exact V_fieldA rfl rfl fo_30_3)) (GR_cons_g rfl rfl rfl rfl rfl rfl rfl (V_load rfl rfl ag_3 (hp.at1 noM hil (show _ = some (I (pt p i).gap) from rfl))) (GR_nil)))))) ?_
              refine GT_st_g rfl rfl rfl rfl rfl rfl rfl (V_neg rfl rfl (wrap_i64 (by omega))) ?_
              refine GT_st_g rfl rfl rfl rfl rfl rfl rfl (V_lss rfl rfl rfl) ?_
              refine GT_st_g rfl rfl rfl rfl rfl rfl rfl (V_pick_f rfl rfl rfl) ?_
              refine GT_st_g rfl rfl rfl rfl rfl rfl rfl (V_pick_t rfl rfl rfl) ?_
              refine GT_st rfl rfl rfl rfl (V_pick_f rfl rfl rfl) ?_
              refine GT_st rfl rfl rfl rfl (V_move rfl rfl) ?_
              first | refine GT_splitNot (d := 59) rfl (fun q6 => ?_) (fun q6 => ?_) | refine GT_split (d := 59) rfl (fun q6 => ?_) (fun q6 => ?_) | refine GT_splitNotB (d := 59) rfl (fun q6 => ?_) (fun q6 => ?_) | refine GT_splitB (d := 59) rfl (fun q6 => ?_) (fun q6 => ?_)
              · skip
                refine GT_skip rfl rfl rfl rfl rfl (by decide) rfl rfl ?_
                refine GT_skip rfl rfl rfl rfl rfl (by decide) rfl rfl ?_
                refine GT_skip rfl rfl rfl rfl rfl (by decide) rfl rfl ?_
                refine GT_skip rfl rfl rfl rfl rfl (by decide) rfl rfl ?_
                refine GT_skip rfl rfl rfl rfl rfl (by decide) rfl rfl ?_
                refine GT_skip rfl rfl rfl rfl rfl (by decide) rfl rfl ?_
                refine GT_skip rfl rfl rfl rfl rfl (by decide) rfl rfl ?_
                refine GT_skip rfl rfl rfl rfl rfl (by decide) rfl rfl ?_
                refine GT_skip rfl rfl rfl rfl rfl (by decide) rfl rfl ?_
                refine GT_skip rfl rfl rfl rfl rfl (by decide) rfl rfl ?_
                refine GT_skip rfl rfl rfl rfl rfl (by decide) rfl rfl ?_
                refine GT_skip rfl rfl rfl rfl rfl (by decide) rfl rfl ?_
                refine GT_skip rfl rfl rfl rfl rfl (by decide) rfl rfl ?_
                refine GT_skip rfl rfl rfl rfl rfl (by decide) rfl rfl ?_
                refine GT_skip rfl rfl rfl rfl rfl (by decide) rfl rfl ?_
                refine GT_skip rfl rfl rfl rfl rfl (by decide) rfl rfl ?_
                refine GT_skip rfl rfl rfl rfl rfl (by decide) rfl rfl ?_
                refine GT_skip_ld rfl rfl rfl rfl rfl (by decide) rfl rfl rfl (GR_skip rfl rfl rfl rfl rfl (by decide) rfl rfl (GR_skip rfl rfl rfl rfl rfl (by decide) rfl rfl (GR_skip rfl rfl rfl rfl rfl (by decide) rfl rfl (GR_skip rfl rfl rfl rfl rfl (by decide) rfl rfl (GR_skip rfl rfl rfl rfl rfl (by decide) rfl rfl (GR_skip rfl rfl rfl rfl rfl (by decide) rfl rfl (GR_skip rfl rfl rfl rfl rfl (by decide) rfl rfl (GR_skip rfl rfl rfl rfl rfl (by decide) rfl rfl (GR_skip rfl rfl rfl rfl rfl (by decide) rfl rfl (GR_nil)))))))))) ?_
                refine GT_skip rfl rfl rfl rfl rfl (by decide) rfl rfl ?_
                refine GT_skip rfl rfl rfl rfl rfl (by decide) rfl rfl ?_
                refine GT_skip rfl rfl rfl rfl rfl (by decide) rfl rfl ?_
                refine GT_st rfl rfl rfl rfl (V_pick_t rfl rfl rfl) ?_
                refine GT_nil ?_
                refine GE_cond_t rfl ?_
                refine GE_seq ?_
                refine GE_slots (L' := []) trivial ?_
                refine GE_plain (.st 0 .nil) rfl ?_
                refine GT_st rfl rfl rfl rfl (V_assign rfl rfl) ?_
                refine GT_nil ?_
                refine GE_ret Tryd.func53 rfl (fun w hw => ⟨?_, hw.nil⟩)
                first | (rw [decide_eq_false]; intro hP; have := hP.1 i hil; unfold posOk at this; omega) | (refine congrArg Value.bool (decide_eq_decide.2 ⟨fun h => ⟨fun j hj => hps j (by omega), h⟩, fun h => h.2⟩))
              · skip
                refine GT_st_g rfl rfl rfl rfl rfl rfl rfl (V_move rfl rfl) ?_
                refine GT_st_g rfl rfl rfl rfl rfl rfl rfl (V_gtr rfl rfl rfl) ?_
                refine GT_st_g rfl rfl rfl rfl rfl rfl rfl (V_move rfl rfl) ?_
                first | refine GT_splitNot (d := 62) rfl (fun q7 => ?_) (fun q7 => ?_) | refine GT_split (d := 62) rfl (fun q7 => ?_) (fun q7 => ?_) | refine GT_splitNotB (d := 62) rfl (fun q7 => ?_) (fun q7 => ?_) | refine GT_splitB (d := 62) rfl (fun q7 => ?_) (fun q7 => ?_)
                · skip
                  refine GT_st_g rfl rfl rfl rfl rfl rfl rfl (V_move rfl rfl) ?_
                  refine GT_st_g rfl rfl rfl rfl rfl rfl rfl (V_move rfl rfl) ?_
                  refine GT_st_g rfl rfl rfl rfl rfl rfl rfl (V_index rfl rfl rfl Tryd.underlying62 sz_3 (k := i) rfl hil (hy.isSome (k := i) (by omega))) ?_
                  refine GT_st_g rfl rfl rfl rfl rfl rfl rfl (V_load rfl rfl ag_3 (CellAt.own0 (k := i) hy eI_len (by omega) (by rw [bgns_get hil]; rfl))) ?_
                  refine GT_st_g rfl rfl rfl rfl rfl rfl rfl (V_move rfl rfl) ?_
                  refine GT_st_g rfl rfl rfl rfl rfl rfl rfl (V_move rfl rfl) ?_
                  refine GT_st_g rfl rfl rfl rfl rfl rfl rfl (V_sub rfl rfl rfl (wrap_i64 (by omega))) ?_
                  refine GT_st_g rfl rfl rfl rfl rfl rfl rfl (V_index rfl rfl rfl Tryd.underlying62 sz_3 (k := i - 2) (by omega) (by omega) (hy.isSome (k := i) (by omega))) ?_
                  refine GT_st_g rfl rfl rfl rfl rfl rfl rfl (V_load rfl rfl ag_3 (CellAt.own0 (k := i - 2) hy eI_len (by omega) (by rw [bgns_get (by omega)]; rfl))) ?_
                  refine GT_st_g rfl rfl rfl rfl rfl rfl rfl (V_move rfl rfl) ?_
                  refine GT_st_g rfl rfl rfl rfl rfl rfl rfl (V_move rfl rfl) ?_
                  refine GT_st_g rfl rfl rfl rfl rfl rfl rfl (V_sub rfl rfl rfl (wrap_i64 (by omega))) ?_
                  refine GT_st_g rfl rfl rfl rfl rfl rfl rfl (V_index rfl rfl rfl Tryd.underlying31 sz_30 (k := i - 2) (by omega) (by omega) (hp.isSome (k := i - 2) (by omega))) ?_
                  refine GT_st_g rfl rfl rfl rfl rfl rfl rfl (V_loadN (vs := [_, _, _, _, _, _, _]) rfl rfl ag_30 sz_30 rfl (show CellsAt _ _ _ (ePrt (pt p (i - 2))) from hp.ats noM (by omega))) ?_
                  refine GT_call0_g rfl rfl rfl rfl rfl rfl rfl rfl rfl rfl rfl rn_56 (fun w hw => C_rLong (x := pt p (i - 2)) (by omega)) (GR_cons_g rfl rfl rfl rfl rfl rfl rfl (V_move rfl rfl) (GR_cons_g rfl rfl rfl rfl rfl rfl rfl (V_move rfl rfl) (GR_cons_g rfl rfl rfl rfl rfl rfl rfl (V_index rfl rfl rfl Tryd.underlying62 sz_3 (k := i) rfl hil (hy.isSome (k := i) (by omega))) (GR_cons_g rfl rfl rfl rfl rfl rfl rfl (V_load rfl rfl ag_3 (CellAt.own0 (k := i) hy eI_len (by omega) (by rw [bgns_get hil]; rfl))) (GR_cons_g rfl rfl rfl rfl rfl rfl rfl (V_move rfl rfl) (GR_cons_g rfl rfl rfl rfl rfl rfl rfl (V_move rfl rfl) (GR_cons_g rfl rfl rfl rfl rfl rfl rfl (V_sub rfl rfl rfl (wrap_i64 (by omega))) (GR_cons_g rfl rfl rfl rfl rfl rfl rfl (V_index rfl rfl rfl Tryd.underlying62 sz_3 (k := i - 2) (by omega) (by omega) (hy.isSome (k := i) (by omega))) (GR_cons_g rfl rfl rfl rfl rfl rfl rfl (V_load rfl rfl ag_3 (CellAt.own0 (k := i - 2) hy eI_len (by omega) (by rw [bgns_get (by omega)]; rfl))) (GR_nil)))))))))) ?_
                  refine GT_st_g rfl rfl rfl rfl rfl rfl rfl (V_add rfl rfl rfl (wrap_i64 (by omega))) ?_
                  refine GT_st_g rfl rfl rfl rfl rfl rfl rfl (V_lss rfl rfl rfl) ?_
                  refine GT_st_g rfl rfl rfl rfl rfl rfl rfl (V_pick_t rfl rfl rfl) ?_
                  refine GT_st rfl rfl rfl rfl (V_pick_f rfl rfl rfl) ?_
                  refine GT_nil ?_
                  first | refine GE_condNot rfl (fun q8 => ?_) (fun q8 => ?_) | refine GE_cond rfl (fun q8 => ?_) (fun q8 => ?_) | refine GE_condNotB rfl (fun q8 => ?_) (fun q8 => ?_) | refine GE_condB rfl (fun q8 => ?_) (fun q8 => ?_)
                  · skip
                    refine GE_seq ?_
                    refine GE_slots (L' := []) trivial ?_
                    refine GE_plain (.st 0 .nil) rfl ?_
                    refine GT_st rfl rfl rfl rfl (V_assign rfl rfl) ?_
                    refine GT_nil ?_
                    refine GE_ret Tryd.func53 rfl (fun w hw => ⟨?_, hw.nil⟩)
                    rw [decide_eq_false]; intro hP; have := hP.1 i hil; unfold posOk at this; omega
                  · skip
                    refine GE_skip ?_
                    refine GE_inBlock ?_
                    refine GE_slots (L' := [(0, _), (3, _), (4, _), (5, _), (20, _), (21, _), (22, _), (23, _), (24, _), (27, _), (28, _), (29, _), (30, _), (31, _), (32, _), (33, _), (34, _), (35, _), (36, _), (37, _), (38, _), (39, _), (40, _), (41, _), (42, _), (43, _), (44, _), (45, _), (46, _), (47, _), (48, _), (49, _), (50, _), (51, _), (52, _), (53, _), (54, _), (55, _), (56, _), (57, _), (60, _), (61, _), (62, _), (63, _), (64, _), (65, _), (66, _), (67, _), (68, _), (69, _), (70, _), (71, _), (72, _), (73, _), (74, _), (75, _), (76, _), (77, _), (78, _), (79, _), (80, _)]) ⟨rfl, rfl, rfl, rfl, rfl, rfl, rfl, rfl, rfl, rfl, rfl, rfl, rfl, rfl, rfl, rfl, rfl, rfl, rfl, rfl, rfl, rfl, rfl, rfl, rfl, rfl, rfl, rfl, rfl, rfl, rfl, rfl, rfl, rfl, rfl, rfl, rfl, rfl, rfl, rfl, rfl, rfl, rfl, rfl, rfl, rfl, rfl, rfl, rfl, rfl, rfl, rfl, rfl, rfl, rfl, rfl, rfl, rfl, rfl, rfl, rfl, trivial⟩ ?_
                    refine GE_plain (.st 0 (.st 1 (.ld 2 [] .nil))) rfl ?_
                    refine GT_st rfl rfl rfl rfl (V_move rfl rfl) ?_
                    refine GT_st rfl rfl rfl rfl (V_add rfl rfl rfl (wrap_i64 (by omega))) ?_
                    refine GT_ldv rfl rfl rfl rfl rfl (V_assign rfl rfl) (GR_nil) ?_
                    refine GT_nil ?_
                    exact GE_to (ih (i + 1) ⟨by omega, fun j hj => by rcases Nat.lt_or_ge j i with r | r; exact hps j r; rw [show j = i by omega]; unfold posOk; omega⟩ (by omega)) ⟨rfl, rfl, rfl, rfl, trivial⟩ HS.all
                · skip
                  refine GT_skip rfl rfl rfl rfl rfl (by decide) rfl rfl ?_
                  refine GT_skip rfl rfl rfl rfl rfl (by decide) rfl rfl ?_
                  refine GT_skip rfl rfl rfl rfl rfl (by decide) rfl rfl ?_
                  refine GT_skip rfl rfl rfl rfl rfl (by decide) rfl rfl ?_
                  refine GT_skip rfl rfl rfl rfl rfl (by decide) rfl rfl ?_
                  refine GT_skip rfl rfl rfl rfl rfl (by decide) rfl rfl ?_
                  refine GT_skip rfl rfl rfl rfl rfl (by decide) rfl rfl ?_
                  refine GT_skip rfl rfl rfl rfl rfl (by decide) rfl rfl ?_
                  refine GT_skip rfl rfl rfl rfl rfl (by decide) rfl rfl ?_
                  refine GT_skip rfl rfl rfl rfl rfl (by decide) rfl rfl ?_
                  refine GT_skip rfl rfl rfl rfl rfl (by decide) rfl rfl ?_
                  refine GT_skip rfl rfl rfl rfl rfl (by decide) rfl rfl ?_
                  refine GT_skip rfl rfl rfl rfl rfl (by decide) rfl rfl ?_
                  refine GT_skip rfl rfl rfl rfl rfl (by decide) rfl rfl ?_
                  refine GT_skip_ld rfl rfl rfl rfl rfl (by decide) rfl rfl rfl (GR_skip rfl rfl rfl rfl rfl (by decide) rfl rfl (GR_skip rfl rfl rfl rfl rfl (by decide) rfl rfl (GR_skip rfl rfl rfl rfl rfl (by decide) rfl rfl (GR_skip rfl rfl rfl rfl rfl (by decide) rfl rfl (GR_skip rfl rfl rfl rfl rfl (by decide) rfl rfl (GR_skip rfl rfl rfl rfl rfl (by decide) rfl rfl (GR_skip rfl rfl rfl rfl rfl (by decide) rfl rfl (GR_skip rfl rfl rfl rfl rfl (by decide) rfl rfl (GR_skip rfl rfl rfl rfl rfl (by decide) rfl rfl (GR_nil)))))))))) ?_
                  refine GT_skip rfl rfl rfl rfl rfl (by decide) rfl rfl ?_
                  refine GT_skip rfl rfl rfl rfl rfl (by decide) rfl rfl ?_
                  refine GT_st_g rfl rfl rfl rfl rfl rfl rfl (V_pick_f rfl rfl rfl) ?_
                  refine GT_st rfl rfl rfl rfl (V_pick_f rfl rfl rfl) ?_
                  refine GT_nil ?_
                  refine GE_cond_f rfl ?_
                  refine GE_skip ?_
                  refine GE_inBlock ?_
                  refine GE_slots (L' := [(0, _), (3, _), (4, _), (5, _), (20, _), (21, _), (22, _), (23, _), (24, _), (27, _), (28, _), (29, _), (30, _), (31, _), (32, _), (33, _), (34, _), (35, _), (36, _), (37, _), (38, _), (39, _), (40, _), (41, _), (42, _), (43, _), (44, _), (45, _), (46, _), (47, _), (48, _), (49, _), (50, _), (51, _), (52, _), (53, _), (54, _), (55, _), (56, _), (57, _), (60, _), (61, _), (62, _), (63, _), (64, _), (65, _), (66, _), (67, _), (68, _), (69, _), (70, _), (71, _), (72, _), (73, _), (74, _), (75, _), (76, _), (77, _), (78, _), (79, _), (80, _)]) ⟨rfl, rfl, rfl, rfl, rfl, rfl, rfl, rfl, rfl, rfl, rfl, rfl, rfl, rfl, rfl, rfl, rfl, rfl, rfl, rfl, rfl, rfl, rfl, rfl, rfl, rfl, rfl, rfl, rfl, rfl, rfl, rfl, rfl, rfl, rfl, rfl, rfl, rfl, rfl, rfl, rfl, rfl, rfl, rfl, rfl, rfl, rfl, rfl, rfl, rfl, rfl, rfl, rfl, rfl, rfl, rfl, rfl, rfl, rfl, rfl, rfl, trivial⟩ ?_
                  refine GE_plain (.st 0 (.st 1 (.ld 2 [] .nil))) rfl ?_
                  refine GT_st rfl rfl rfl rfl (V_move rfl rfl) ?_
                  refine GT_st rfl rfl rfl rfl (V_add rfl rfl rfl (wrap_i64 (by omega))) ?_
                  refine GT_ldv rfl rfl rfl rfl rfl (V_assign rfl rfl) (GR_nil) ?_
                  refine GT_nil ?_
                  exact GE_to (ih (i + 1) ⟨by omega, fun j hj => by rcases Nat.lt_or_ge j i with r | r; exact hps j r; rw [show j = i by omega]; unfold posOk; omega⟩ (by omega)) ⟨rfl, rfl, rfl, rfl, trivial⟩ HS.all
          · skip
            refine GT_skip rfl rfl rfl rfl rfl (by decide) rfl rfl ?_
            refine GT_skip rfl rfl rfl rfl rfl (by decide) rfl rfl ?_
            refine GT_skip rfl rfl rfl rfl rfl (by decide) rfl rfl ?_
            refine GT_skip rfl rfl rfl rfl rfl (by decide) rfl rfl ?_
            refine GT_skip rfl rfl rfl rfl rfl (by decide) rfl rfl ?_
            refine GT_skip rfl rfl rfl rfl rfl (by decide) rfl rfl ?_
            refine GT_skip rfl rfl rfl rfl rfl (by decide) rfl rfl ?_
            refine GT_skip rfl rfl rfl rfl rfl (by decide) rfl rfl ?_
            refine GT_skip rfl rfl rfl rfl rfl (by decide) rfl rfl ?_
            refine GT_skip_ld rfl rfl rfl rfl rfl (by decide) rfl rfl rfl (GR_skip rfl rfl rfl rfl rfl (by decide) rfl rfl (GR_skip rfl rfl rfl rfl rfl (by decide) rfl rfl (GR_skip rfl rfl rfl rfl rfl (by decide) rfl rfl (GR_skip rfl rfl rfl rfl rfl (by decide) rfl rfl (GR_skip rfl rfl rfl rfl rfl (by decide) rfl rfl (GR_nil)))))) ?_
            refine GT_skip rfl rfl rfl rfl rfl (by decide) rfl rfl ?_
            refine GT_skip rfl rfl rfl rfl rfl (by decide) rfl rfl ?_
            refine GT_skip rfl rfl rfl rfl rfl (by decide) rfl rfl ?_
            refine GT_skip rfl rfl rfl rfl rfl (by decide) rfl rfl ?_
            refine GT_skip rfl rfl rfl rfl rfl (by decide) rfl rfl ?_
            refine GT_skip rfl rfl rfl rfl rfl (by decide) rfl rfl ?_
            refine GT_skip rfl rfl rfl rfl rfl (by decide) rfl rfl ?_
            refine GT_skip rfl rfl rfl rfl rfl (by decide) rfl rfl ?_
            refine GT_skip rfl rfl rfl rfl rfl (by decide) rfl rfl ?_
            refine GT_skip rfl rfl rfl rfl rfl (by decide) rfl rfl ?_
            refine GT_skip rfl rfl rfl rfl rfl (by decide) rfl rfl ?_
            refine GT_skip rfl rfl rfl rfl rfl (by decide) rfl rfl ?_
            refine GT_skip rfl rfl rfl rfl rfl (by decide) rfl rfl ?_
            refine GT_skip_ld rfl rfl rfl rfl rfl (by decide) rfl rfl rfl (GR_skip rfl rfl rfl rfl rfl (by decide) rfl rfl (GR_skip rfl rfl rfl rfl rfl (by decide) rfl rfl (GR_skip rfl rfl rfl rfl rfl (by decide) rfl rfl (GR_skip rfl rfl rfl rfl rfl (by decide) rfl rfl (GR_skip rfl rfl rfl rfl rfl (by decide) rfl rfl (GR_nil)))))) ?_
            refine GT_skip rfl rfl rfl rfl rfl (by decide) rfl rfl ?_
            refine GT_skip rfl rfl rfl rfl rfl (by decide) rfl rfl ?_
            refine GT_skip rfl rfl rfl rfl rfl (by decide) rfl rfl ?_
            refine GT_st_g rfl rfl rfl rfl rfl rfl rfl (V_pick_f rfl rfl rfl) ?_
            refine GT_st rfl rfl rfl rfl (V_pick_f rfl rfl rfl) ?_
            refine GT_st rfl rfl rfl rfl (V_move rfl rfl) ?_
            refine GT_st_g rfl rfl rfl rfl rfl rfl rfl (V_move rfl rfl) ?_
            refine GT_st_g rfl rfl rfl rfl rfl rfl rfl (V_gtr rfl rfl rfl) ?_
            refine GT_st_g rfl rfl rfl rfl rfl rfl rfl (V_move rfl rfl) ?_
            first | refine GT_splitNot (d := 62) rfl (fun q7 => ?_) (fun q7 => ?_) | refine GT_split (d := 62) rfl (fun q7 => ?_) (fun q7 => ?_) | refine GT_splitNotB (d := 62) rfl (fun q7 => ?_) (fun q7 => ?_) | refine GT_splitB (d := 62) rfl (fun q7 => ?_) (fun q7 => ?_)
            · skip
              refine GT_st_g rfl rfl rfl rfl rfl rfl rfl (V_move rfl rfl) ?_
              refine GT_st_g rfl rfl rfl rfl rfl rfl rfl (V_move rfl rfl) ?_
              refine GT_st_g rfl rfl rfl rfl rfl rfl rfl (V_index rfl rfl rfl Tryd.underlying62 sz_3 (k := i) rfl hil (hy.isSome (k := i) (by omega))) ?_
              refine GT_st_g rfl rfl rfl rfl rfl rfl rfl (V_load rfl rfl ag_3 (CellAt.own0 (k := i) hy eI_len (by omega) (by rw [bgns_get hil]; rfl))) ?_
              refine GT_st_g rfl rfl rfl rfl rfl rfl rfl (V_move rfl rfl) ?_
              refine GT_st_g rfl rfl rfl rfl rfl rfl rfl (V_move rfl rfl) ?_
              refine GT_st_g rfl rfl rfl rfl rfl rfl rfl (V_sub rfl rfl rfl (wrap_i64 (by omega))) ?_
              refine GT_st_g rfl rfl rfl rfl rfl rfl rfl (V_index rfl rfl rfl Tryd.underlying62 sz_3 (k := i - 2) (by omega) (by omega) (hy.isSome (k := i) (by omega))) ?_
              refine GT_st_g rfl rfl rfl rfl rfl rfl rfl (V_load rfl rfl ag_3 (CellAt.own0 (k := i - 2) hy eI_len (by omega) (by rw [bgns_get (by omega)]; rfl))) ?_
              refine GT_st_g rfl rfl rfl rfl rfl rfl rfl (V_move rfl rfl) ?_
              refine GT_st_g rfl rfl rfl rfl rfl rfl rfl (V_move rfl rfl) ?_
              refine GT_st_g rfl rfl rfl rfl rfl rfl rfl (V_sub rfl rfl rfl (wrap_i64 (by omega))) ?_
              refine GT_st_g rfl rfl rfl rfl rfl rfl rfl (V_index rfl rfl rfl Tryd.underlying31 sz_30 (k := i - 2) (by omega) (by omega) (hp.isSome (k := i - 2) (by omega))) ?_
              refine GT_st_g rfl rfl rfl rfl rfl rfl rfl (V_loadN (vs := [_, _, _, _, _, _, _]) rfl rfl ag_30 sz_30 rfl (show CellsAt _ _ _ (ePrt (pt p (i - 2))) from hp.ats noM (by omega))) ?_
              refine GT_call0_g rfl rfl rfl rfl rfl rfl rfl rfl rfl rfl rfl rn_56 (fun w hw => C_rLong (x := pt p (i - 2)) (by omega)) (GR_cons_g rfl rfl rfl rfl rfl rfl rfl (V_move rfl rfl) (GR_cons_g rfl rfl rfl rfl rfl rfl rfl (V_move rfl rfl) (GR_cons_g rfl rfl rfl rfl rfl rfl rfl (V_index rfl rfl rfl Tryd.underlying62 sz_3 (k := i) rfl hil (hy.isSome (k := i) (by omega))) (GR_cons_g rfl rfl rfl rfl rfl rfl rfl (V_load rfl rfl ag_3 (CellAt.own0 (k := i) hy eI_len (by omega) (by rw [bgns_get hil]; rfl))) (GR_cons_g rfl rfl rfl rfl rfl rfl rfl (V_move rfl rfl) (GR_cons_g rfl rfl rfl rfl rfl rfl rfl (V_move rfl rfl) (GR_cons_g rfl rfl rfl rfl rfl rfl rfl (V_sub rfl rfl rfl (wrap_i64 (by omega))) (GR_cons_g rfl rfl rfl rfl rfl rfl rfl (V_index rfl rfl rfl Tryd.underlying62 sz_3 (k := i - 2) (by omega) (by omega) (hy.isSome (k := i) (by omega))) (GR_cons_g rfl rfl rfl rfl rfl rfl rfl (V_load rfl rfl ag_3 (CellAt.own0 (k := i - 2) hy eI_len (by omega) (by rw [bgns_get (by omega)]; rfl))) (GR_nil)))))))))) ?_
              refine GT_st_g rfl rfl rfl rfl rfl rfl rfl (V_add rfl rfl rfl (wrap_i64 (by omega))) ?_
              refine GT_st_g rfl rfl rfl rfl rfl rfl rfl (V_lss rfl rfl rfl) ?_
              refine GT_st_g rfl rfl rfl rfl rfl rfl rfl (V_pick_t rfl rfl rfl) ?_
              refine GT_st rfl rfl rfl rfl (V_pick_f rfl rfl rfl) ?_
              refine GT_nil ?_
              first | refine GE_condNot rfl (fun q8 => ?_) (fun q8 => ?_) | refine GE_cond rfl (fun q8 => ?_) (fun q8 => ?_) | refine GE_condNotB rfl (fun q8 => ?_) (fun q8 => ?_) | refine GE_condB rfl (fun q8 => ?_) (fun q8 => ?_)
              · skip
                refine GE_seq ?_
                refine GE_slots (L' := []) trivial ?_
                refine GE_plain (.st 0 .nil) rfl ?_
                refine GT_st rfl rfl rfl rfl (V_assign rfl rfl) ?_
                refine GT_nil ?_
                refine GE_ret Tryd.func53 rfl (fun w hw => ⟨?_, hw.nil⟩)
                rw [decide_eq_false]; intro hP; have := hP.1 i hil; unfold posOk at this; omega
              · skip
                refine GE_skip ?_
                refine GE_inBlock ?_
                refine GE_slots (L' := [(0, _), (3, _), (4, _), (5, _), (20, _), (21, _), (22, _), (23, _), (24, _), (27, _), (28, _), (29, _), (30, _), (31, _), (32, _), (33, _), (34, _), (35, _), (36, _), (37, _), (38, _), (39, _), (40, _), (41, _), (42, _), (43, _), (44, _), (45, _), (46, _), (47, _), (48, _), (49, _), (50, _), (51, _), (52, _), (53, _), (54, _), (55, _), (56, _), (57, _), (60, _), (61, _), (62, _), (63, _), (64, _), (65, _), (66, _), (67, _), (68, _), (69, _), (70, _), (71, _), (72, _), (73, _), (74, _), (75, _), (76, _), (77, _), (78, _), (79, _), (80, _)]) ⟨rfl, rfl, rfl, rfl, rfl, rfl, rfl, rfl, rfl, rfl, rfl, rfl, rfl, rfl, rfl, rfl, rfl, rfl, rfl, rfl, rfl, rfl, rfl, rfl, rfl, rfl, rfl, rfl, rfl, rfl, rfl, rfl, rfl, rfl, rfl, rfl, rfl, rfl, rfl, rfl, rfl, rfl, rfl, rfl, rfl, rfl, rfl, rfl, rfl, rfl, rfl, rfl, rfl, rfl, rfl, rfl, rfl, rfl, rfl, rfl, rfl, trivial⟩ ?_
                refine GE_plain (.st 0 (.st 1 (.ld 2 [] .nil))) rfl ?_
                refine GT_st rfl rfl rfl rfl (V_move rfl rfl) ?_
                refine GT_st rfl rfl rfl rfl (V_add rfl rfl rfl (wrap_i64 (by omega))) ?_
                refine GT_ldv rfl rfl rfl rfl rfl (V_assign rfl rfl) (GR_nil) ?_
                refine GT_nil ?_
                exact GE_to (ih (i + 1) ⟨by omega, fun j hj => by rcases Nat.lt_or_ge j i with r | r; exact hps j r; rw [show j = i by omega]; unfold posOk; omega⟩ (by omega)) ⟨rfl, rfl, rfl, rfl, trivial⟩ HS.all
            · skip
              refine GT_skip rfl rfl rfl rfl rfl (by decide) rfl rfl ?_
              refine GT_skip rfl rfl rfl rfl rfl (by decide) rfl rfl ?_
              refine GT_skip rfl rfl rfl rfl rfl (by decide) rfl rfl ?_
              refine GT_skip rfl rfl rfl rfl rfl (by decide) rfl rfl ?_
              refine GT_skip rfl rfl rfl rfl rfl (by decide) rfl rfl ?_
              refine GT_skip rfl rfl rfl rfl rfl (by decide) rfl rfl ?_
              refine GT_skip rfl rfl rfl rfl rfl (by decide) rfl rfl ?_
              refine GT_skip rfl rfl rfl rfl rfl (by decide) rfl rfl ?_
              refine GT_skip rfl rfl rfl rfl rfl (by decide) rfl rfl ?_
              refine GT_skip rfl rfl rfl rfl rfl (by decide) rfl rfl ?_
              refine GT_skip rfl rfl rfl rfl rfl (by decide) rfl rfl ?_
              refine GT_skip rfl rfl rfl rfl rfl (by decide) rfl rfl ?_
              refine GT_skip rfl rfl rfl rfl rfl (by decide) rfl rfl ?_
              refine GT_skip rfl rfl rfl rfl rfl (by decide) rfl rfl ?_
              refine GT_skip_ld rfl rfl rfl rfl rfl (by decide) rfl rfl rfl (GR_skip rfl rfl rfl rfl rfl (by decide) rfl rfl (GR_skip rfl rfl rfl rfl rfl (by decide) rfl rfl (GR_skip rfl rfl rfl rfl rfl (by decide) rfl rfl (GR_skip rfl rfl rfl rfl rfl (by decide) rfl rfl (GR_skip rfl rfl rfl rfl rfl (by decide) rfl rfl (GR_skip rfl rfl rfl rfl rfl (by decide) rfl rfl (GR_skip rfl rfl rfl rfl rfl (by decide) rfl rfl (GR_skip rfl rfl rfl rfl rfl (by decide) rfl rfl (GR_skip rfl rfl rfl rfl rfl (by decide) rfl rfl (GR_nil)))))))))) ?_
              refine GT_skip rfl rfl rfl rfl rfl (by decide) rfl rfl ?_
              refine GT_skip rfl rfl rfl rfl rfl (by decide) rfl rfl ?_
              refine GT_st_g rfl rfl rfl rfl rfl rfl rfl (V_pick_f rfl rfl rfl) ?_
              refine GT_st rfl rfl rfl rfl (V_pick_f rfl rfl rfl) ?_
              refine GT_nil ?_
              refine GE_cond_f rfl ?_
              refine GE_skip ?_
              refine GE_inBlock ?_
              refine GE_slots (L' := [(0, _), (3, _), (4, _), (5, _), (20, _), (21, _), (22, _), (23, _), (24, _), (27, _), (28, _), (29, _), (30, _), (31, _), (32, _), (33, _), (34, _), (35, _), (36, _), (37, _), (38, _), (39, _), (40, _), (41, _), (42, _), (43, _), (44, _), (45, _), (46, _), (47, _), (48, _), (49, _), (50, _), (51, _), (52, _), (53, _), (54, _), (55, _), (56, _), (57, _), (60, _), (61, _), (62, _), (63, _), (64, _), (65, _), (66, _), (67, _), (68, _), (69, _), (70, _), (71, _), (72, _), (73, _), (74, _), (75, _), (76, _), (77, _), (78, _), (79, _), (80, _)]) ⟨rfl, rfl, rfl, rfl, rfl, rfl, rfl, rfl, rfl, rfl, rfl, rfl, rfl, rfl, rfl, rfl, rfl, rfl, rfl, rfl, rfl, rfl, rfl, rfl, rfl, rfl, rfl, rfl, rfl, rfl, rfl, rfl, rfl, rfl, rfl, rfl, rfl, rfl, rfl, rfl, rfl, rfl, rfl, rfl, rfl, rfl, rfl, rfl, rfl, rfl, rfl, rfl, rfl, rfl, rfl, rfl, rfl, rfl, rfl, rfl, rfl, trivial⟩ ?_
              refine GE_plain (.st 0 (.st 1 (.ld 2 [] .nil))) rfl ?_
              refine GT_st rfl rfl rfl rfl (V_move rfl rfl) ?_
              refine GT_st rfl rfl rfl rfl (V_add rfl rfl rfl (wrap_i64 (by omega))) ?_
              refine GT_ldv rfl rfl rfl rfl rfl (V_assign rfl rfl) (GR_nil) ?_
              refine GT_nil ?_
              exact GE_to (ih (i + 1) ⟨by omega, fun j hj => by rcases Nat.lt_or_ge j i with r | r; exact hps j r; rw [show j = i by omega]; unfold posOk; omega⟩ (by omega)) ⟨rfl, rfl, rfl, rfl, trivial⟩ HS.all
      · skip
        refine GT_skip rfl rfl rfl rfl rfl (by decide) rfl rfl ?_
        refine GT_skip rfl rfl rfl rfl rfl (by decide) rfl rfl ?_
        refine GT_skip rfl rfl rfl rfl rfl (by decide) rfl rfl ?_
        refine GT_skip rfl rfl rfl rfl rfl (by decide) rfl rfl ?_
        refine GT_skip rfl rfl rfl rfl rfl (by decide) rfl rfl ?_
        refine GT_st rfl rfl rfl rfl (V_pick_f rfl rfl rfl) ?_
        refine GT_st rfl rfl rfl rfl (V_move rfl rfl) ?_
        refine GT_st_g rfl rfl rfl rfl rfl rfl rfl (V_move rfl rfl) ?_
        refine GT_st_g rfl rfl rfl rfl rfl rfl rfl (V_gtr rfl rfl rfl) ?_
        refine GT_st_g rfl rfl rfl rfl rfl rfl rfl (V_move rfl rfl) ?_
        first | refine GT_splitNot (d := 29) rfl (fun q4 => ?_) (fun q4 => ?_) | refine GT_split (d := 29) rfl (fun q4 => ?_) (fun q4 => ?_) | refine GT_splitNotB (d := 29) rfl (fun q4 => ?_) (fun q4 => ?_) | refine GT_splitB (d := 29) rfl (fun q4 => ?_) (fun q4 => ?_)
        · skip
          refine GT_st_g rfl rfl rfl rfl rfl rfl rfl (V_move rfl rfl) ?_
          refine GT_st_g rfl rfl rfl rfl rfl rfl rfl (V_move rfl rfl) ?_
          refine GT_st_g rfl rfl rfl rfl rfl rfl rfl (V_index rfl rfl rfl Tryd.underlying31 sz_30 (k := i) rfl hil (hp.isSome hil)) ?_
          first | refine GT_st_g rfl rfl rfl rfl rfl rfl rfl (V_field rfl rfl fo_30_3) ?_ | refine GT_st_g rfl rfl rfl rfl rfl rfl rfl (V_fieldA rfl rfl fo_30_3) ?_
          refine GT_st_g rfl rfl rfl rfl rfl rfl rfl (V_load rfl rfl ag_3 (hp.at1 noM hil (show _ = some (I (pt p i).gap) from rfl))) ?_
          refine GT_st_g rfl rfl rfl rfl rfl rfl rfl (V_move rfl rfl) ?_
          refine GT_st_g rfl rfl rfl rfl rfl rfl rfl (V_move rfl rfl) ?_
          refine GT_st_g rfl rfl rfl rfl rfl rfl rfl (V_index rfl rfl rfl Tryd.underlying31 sz_30 (k := i) rfl hil (hp.isSome hil)) ?_
          refine GT_st_g rfl rfl rfl rfl rfl rfl rfl (V_loadN (vs := [_, _, _, _, _, _, _]) rfl rfl ag_30 sz_30 rfl (show CellsAt _ _ _ (ePrt (pt p i)) from hp.ats noM hil)) ?_
          refine GT_call0_g rfl rfl rfl rfl rfl rfl rfl rfl rfl rfl rfl rn_56 (fun w hw => C_rLong (x := pt p i) (by omega)) (GR_cons_g rfl rfl rfl rfl rfl rfl rfl (V_move rfl rfl) (GR_cons_g rfl rfl rfl rfl rfl rfl rfl (V_move rfl rfl) (GR_cons_g rfl rfl rfl rfl rfl rfl rfl (V_index rfl rfl rfl Tryd.underlying31 sz_30 (k := i) rfl hil (hp.isSome hil)) (GR_cons_g rfl rfl rfl rfl rfl rfl rfl ((by first | exact V_field rfl rfl fo_30_3 | exact V_fieldA rfl rfl fo_30_3)) (GR_cons_g rfl rfl rfl rfl rfl rfl rfl (V_load rfl rfl ag_3 (hp.at1 noM hil (show _ = some (I (pt p i).gap) from rfl))) (GR_nil)))))) ?_
          refine GT_st_g rfl rfl rfl rfl rfl rfl rfl (V_neg rfl rfl (wrap_i64 (by omega))) ?_
          refine GT_st_g rfl rfl rfl rfl rfl rfl rfl (V_lss rfl rfl rfl) ?_
          refine GT_st_g rfl rfl rfl rfl rfl rfl rfl (V_move rfl rfl) ?_
          first | refine GT_splitNot (d := 42) rfl (fun q5 => ?_) (fun q5 => ?_) | refine GT_split (d := 42) rfl (fun q5 => ?_) (fun q5 => ?_) | refine GT_splitNotB (d := 42) rfl (fun q5 => ?_) (fun q5 => ?_) | refine GT_splitB (d := 42) rfl (fun q5 => ?_) (fun q5 => ?_)
          · skip
            refine GT_skip rfl rfl rfl rfl rfl (by decide) rfl rfl ?_
            refine GT_skip rfl rfl rfl rfl rfl (by decide) rfl rfl ?_
            refine GT_skip rfl rfl rfl rfl rfl (by decide) rfl rfl ?_
            refine GT_skip rfl rfl rfl rfl rfl (by decide) rfl rfl ?_
            refine GT_skip rfl rfl rfl rfl rfl (by decide) rfl rfl ?_
            refine GT_skip rfl rfl rfl rfl rfl (by decide) rfl rfl ?_
            refine GT_skip rfl rfl rfl rfl rfl (by decide) rfl rfl ?_
            refine GT_skip rfl rfl rfl rfl rfl (by decide) rfl rfl ?_
            refine GT_skip rfl rfl rfl rfl rfl (by decide) rfl rfl ?_
            refine GT_skip rfl rfl rfl rfl rfl (by decide) rfl rfl ?_
            refine GT_skip_ld rfl rfl rfl rfl rfl (by decide) rfl rfl rfl (GR_skip rfl rfl rfl rfl rfl (by decide) rfl rfl (GR_skip rfl rfl rfl rfl rfl (by decide) rfl rfl (GR_skip rfl rfl rfl rfl rfl (by decide) rfl rfl (GR_skip rfl rfl rfl rfl rfl (by decide) rfl rfl (GR_skip rfl rfl rfl rfl rfl (by decide) rfl rfl (GR_nil)))))) ?_
            refine GT_skip rfl rfl rfl rfl rfl (by decide) rfl rfl ?_
            refine GT_skip rfl rfl rfl rfl rfl (by decide) rfl rfl ?_
            refine GT_st_g rfl rfl rfl rfl rfl rfl rfl (V_pick_t rfl rfl rfl) ?_
            refine GT_st_g rfl rfl rfl rfl rfl rfl rfl (V_pick_t rfl rfl rfl) ?_
            refine GT_st rfl rfl rfl rfl (V_pick_f rfl rfl rfl) ?_
            refine GT_st rfl rfl rfl rfl (V_move rfl rfl) ?_
            refine GT_skip rfl rfl rfl rfl rfl (by decide) rfl rfl ?_
            refine GT_skip rfl rfl rfl rfl rfl (by decide) rfl rfl ?_
            refine GT_skip rfl rfl rfl rfl rfl (by decide) rfl rfl ?_
            refine GT_skip rfl rfl rfl rfl rfl (by decide) rfl rfl ?_
            refine GT_skip rfl rfl rfl rfl rfl (by decide) rfl rfl ?_
            refine GT_skip rfl rfl rfl rfl rfl (by decide) rfl rfl ?_
            refine GT_skip rfl rfl rfl rfl rfl (by decide) rfl rfl ?_
            refine GT_skip rfl rfl rfl rfl rfl (by decide) rfl rfl ?_
            refine GT_skip rfl rfl rfl rfl rfl (by decide) rfl rfl ?_
            refine GT_skip rfl rfl rfl rfl rfl (by decide) rfl rfl ?_
            refine GT_skip rfl rfl rfl rfl rfl (by decide) rfl rfl ?_
            refine GT_skip rfl rfl rfl rfl rfl (by decide) rfl rfl ?_
            refine GT_skip rfl rfl rfl rfl rfl (by decide) rfl rfl ?_
            refine GT_skip rfl rfl rfl rfl rfl (by decide) rfl rfl ?_
            refine GT_skip rfl rfl rfl rfl rfl (by decide) rfl rfl ?_
            refine GT_skip rfl rfl rfl rfl rfl (by decide) rfl rfl ?_
            refine GT_skip rfl rfl rfl rfl rfl (by decide) rfl rfl ?_
            refine GT_skip_ld rfl rfl rfl rfl rfl (by decide) rfl rfl rfl (GR_skip rfl rfl rfl rfl rfl (by decide) rfl rfl (GR_skip rfl rfl rfl rfl rfl (by decide) rfl rfl (GR_skip rfl rfl rfl rfl rfl (by decide) rfl rfl (GR_skip rfl rfl rfl rfl rfl (by decide) rfl rfl (GR_skip rfl rfl rfl rfl rfl (by decide) rfl rfl (GR_skip rfl rfl rfl rfl rfl (by decide) rfl rfl (GR_skip rfl rfl rfl rfl rfl (by decide) rfl rfl (GR_skip rfl rfl rfl rfl rfl (by decide) rfl rfl (GR_skip rfl rfl rfl rfl rfl (by decide) rfl rfl (GR_nil)))))))))) ?_
            refine GT_skip rfl rfl rfl rfl rfl (by decide) rfl rfl ?_
            refine GT_skip rfl rfl rfl rfl rfl (by decide) rfl rfl ?_
            refine GT_skip rfl rfl rfl rfl rfl (by decide) rfl rfl ?_
            refine GT_st rfl rfl rfl rfl (V_pick_t rfl rfl rfl) ?_
            refine GT_nil ?_
            refine GE_cond_t rfl ?_
            refine GE_seq ?_
            refine GE_slots (L' := []) trivial ?_
            refine GE_plain (.st 0 .nil) rfl ?_
            refine GT_st rfl rfl rfl rfl (V_assign rfl rfl) ?_
            refine GT_nil ?_
            refine GE_ret Tryd.func53 rfl (fun w hw => ⟨?_, hw.nil⟩)
            first | (rw [decide_eq_false]; intro hP; have := hP.1 i hil; unfold posOk at this; omega) | (refine congrArg Value.bool (decide_eq_decide.2 ⟨fun h => ⟨fun j hj => hps j (by omega), h⟩, fun h => h.2⟩))
          · skip
            refine GT_st_g rfl rfl rfl rfl rfl rfl rfl (V_move rfl rfl) ?_
            refine GT_st_g rfl rfl rfl rfl rfl rfl rfl (V_move rfl rfl) ?_
            refine GT_st_g rfl rfl rfl rfl rfl rfl rfl (V_index rfl rfl rfl Tryd.underlying31 sz_30 (k := i) rfl hil (hp.isSome hil)) ?_
            first | refine GT_st_g rfl rfl rfl rfl rfl rfl rfl (V_field rfl rfl fo_30_3) ?_ | refine GT_st_g rfl rfl rfl rfl rfl rfl rfl (V_fieldA rfl rfl fo_30_3) ?_
            refine GT_st_g rfl rfl rfl rfl rfl rfl rfl (V_load rfl rfl ag_3 (hp.at1 noM hil (show _ = some (I (pt p i).gap) from rfl))) ?_
            refine GT_st_g rfl rfl rfl rfl rfl rfl rfl (V_move rfl rfl) ?_
            refine GT_st_g rfl rfl rfl rfl rfl rfl rfl (V_move rfl rfl) ?_
            refine GT_st_g rfl rfl rfl rfl rfl rfl rfl (V_sub rfl rfl rfl (wrap_i64 (by omega))) ?_
            refine GT_st_g rfl rfl rfl rfl rfl rfl rfl (V_index rfl rfl rfl Tryd.underlying31 sz_30 (k := i - 1) (by omega) (by omega) (hp.isSome (k := i - 1) (by omega))) ?_
            refine GT_st_g rfl rfl rfl rfl rfl rfl rfl (V_loadN (vs := [_, _, _, _, _, _, _]) rfl rfl ag_30 sz_30 rfl (show CellsAt _ _ _ (ePrt (pt p (i - 1))) from hp.ats noM (by omega))) ?_
            refine GT_call0_g rfl rfl rfl rfl rfl rfl rfl rfl rfl rfl rfl rn_56 (fun w hw => C_rLong (x := pt p (i - 1)) (by omega)) (GR_cons_g rfl rfl rfl rfl rfl rfl rfl (V_move rfl rfl) (GR_cons_g rfl rfl rfl rfl rfl rfl rfl (V_move rfl rfl) (GR_cons_g rfl rfl rfl rfl rfl rfl rfl (V_index rfl rfl rfl Tryd.underlying31 sz_30 (k := i) rfl hil (hp.isSome hil)) (GR_cons_g rfl rfl rfl rfl rfl rfl rfl ((by first | exact V_field rfl rfl fo_30_3 | exact V_fieldA rfl rfl fo_30_3)) (GR_cons_g rfl rfl rfl rfl rfl rfl rfl (V_load rfl rfl ag_3 (hp.at1 noM hil (show _ = some (I (pt p i).gap) from rfl))) (GR_nil)))))) ?_
            refine GT_st_g rfl rfl rfl rfl rfl rfl rfl (V_neg rfl rfl (wrap_i64 (by omega))) ?_
            refine GT_st_g rfl rfl rfl rfl rfl rfl rfl (V_lss rfl rfl rfl) ?_
            refine GT_st_g rfl rfl rfl rfl rfl rfl rfl (V_pick_f rfl rfl rfl) ?_
            refine GT_st_g rfl rfl rfl rfl rfl rfl rfl (V_pick_t rfl rfl rfl) ?_
            refine GT_st rfl rfl rfl rfl (V_pick_f rfl rfl rfl) ?_
            refine GT_st rfl rfl rfl rfl (V_move rfl rfl) ?_
            first | refine GT_splitNot (d := 59) rfl (fun q6 => ?_) (fun q6 => ?_) | refine GT_split (d := 59) rfl (fun q6 => ?_) (fun q6 => ?_) | refine GT_splitNotB (d := 59) rfl (fun q6 => ?_) (fun q6 => ?_) | refine GT_splitB (d := 59) rfl (fun q6 => ?_) (fun q6 => ?_)
            · skip
              refine GT_skip rfl rfl rfl rfl rfl (by decide) rfl rfl ?_
              refine GT_skip rfl rfl rfl rfl rfl (by decide) rfl rfl ?_
              refine GT_skip rfl rfl rfl rfl rfl (by decide) rfl rfl ?_
              refine GT_skip rfl rfl rfl rfl rfl (by decide) rfl rfl ?_
              refine GT_skip rfl rfl rfl rfl rfl (by decide) rfl rfl ?_
              refine GT_skip rfl rfl rfl rfl rfl (by decide) rfl rfl ?_
              refine GT_skip rfl rfl rfl rfl rfl (by decide) rfl rfl ?_
              refine GT_skip rfl rfl rfl rfl rfl (by decide) rfl rfl ?_
              refine GT_skip rfl rfl rfl rfl rfl (by decide) rfl rfl ?_
              refine GT_skip rfl rfl rfl rfl rfl (by decide) rfl rfl ?_
              refine GT_skip rfl rfl rfl rfl rfl (by decide) rfl rfl ?_
              refine GT_skip rfl rfl rfl rfl rfl (by decide) rfl rfl ?_
              refine GT_skip rfl rfl rfl rfl rfl (by decide) rfl rfl ?_
              refine GT_skip rfl rfl rfl rfl rfl (by decide) rfl rfl ?_
              refine GT_skip rfl rfl rfl rfl rfl (by decide) rfl rfl ?_
              refine GT_skip rfl rfl rfl rfl rfl (by decide) rfl rfl ?_
              refine GT_skip rfl rfl rfl rfl rfl (by decide) rfl rfl ?_
              refine GT_skip_ld rfl rfl rfl rfl rfl (by decide) rfl rfl rfl (GR_skip rfl rfl rfl rfl rfl (by decide) rfl rfl (GR_skip rfl rfl rfl rfl rfl (by decide) rfl rfl (GR_skip rfl rfl rfl rfl rfl (by decide) rfl rfl (GR_skip rfl rfl rfl rfl rfl (by decide) rfl rfl (GR_skip rfl rfl rfl rfl rfl (by decide) rfl rfl (GR_skip rfl rfl rfl rfl rfl (by decide) rfl rfl (GR_skip rfl rfl rfl rfl rfl (by decide) rfl rfl (GR_skip rfl rfl rfl rfl rfl (by decide) rfl rfl (GR_skip rfl rfl rfl rfl rfl (by decide) rfl rfl (GR_nil)))))))))) ?_
              refine GT_skip rfl rfl rfl rfl rfl (by decide) rfl rfl ?_
              refine GT_skip rfl rfl rfl rfl rfl (by decide) rfl rfl ?_
              refine GT_skip rfl rfl rfl rfl rfl (by decide) rfl rfl ?_
              refine GT_st rfl rfl rfl rfl (V_pick_t rfl rfl rfl) ?_
              refine GT_nil ?_
              refine GE_cond_t rfl ?_
              refine GE_seq ?_
              refine GE_slots (L' := []) trivial ?_
              refine GE_plain (.st 0 .nil) rfl ?_
              refine GT_st rfl rfl rfl rfl (V_assign rfl rfl) ?_
              refine GT_nil ?_
              refine GE_ret Tryd.func53 rfl (fun w hw => ⟨?_, hw.nil⟩)
              first | (rw [decide_eq_false]; intro hP; have := hP.1 i hil; unfold posOk at this; omega) | (refine congrArg Value.bool (decide_eq_decide.2 ⟨fun h => ⟨fun j hj => hps j (by omega), h⟩, fun h => h.2⟩))
            · skip
              refine GT_st_g rfl rfl rfl rfl rfl rfl rfl (V_move rfl rfl) ?_
              refine GT_st_g rfl rfl rfl rfl rfl rfl rfl (V_gtr rfl rfl rfl) ?_
              refine GT_st_g rfl rfl rfl rfl rfl rfl rfl (V_move rfl rfl) ?_
              first | refine GT_splitNot (d := 62) rfl (fun q7 => ?_) (fun q7 => ?_) | refine GT_split (d := 62) rfl (fun q7 => ?_) (fun q7 => ?_) | refine GT_splitNotB (d := 62) rfl (fun q7 => ?_) (fun q7 => ?_) | refine GT_splitB (d := 62) rfl (fun q7 => ?_) (fun q7 => ?_)
              · skip
                refine GT_st_g rfl rfl rfl rfl rfl rfl rfl (V_move rfl rfl) ?_
                refine GT_st_g rfl rfl rfl rfl rfl rfl rfl (V_move rfl rfl) ?_
                refine GT_st_g rfl rfl rfl rfl rfl rfl rfl (V_index rfl rfl rfl Tryd.underlying62 sz_3 (k := i) rfl hil (hy.isSome (k := i) (by omega))) ?_
                refine GT_st_g rfl rfl rfl rfl rfl rfl rfl (V_load rfl rfl ag_3 (CellAt.own0 (k := i) hy eI_len (by omega) (by rw [bgns_get hil]; rfl))) ?_
                refine GT_st_g rfl rfl rfl rfl rfl rfl rfl (V_move rfl rfl) ?_
                refine GT_st_g rfl rfl rfl rfl rfl rfl rfl (V_move rfl rfl) ?_
                refine GT_st_g rfl rfl rfl rfl rfl rfl rfl (V_sub rfl rfl rfl (wrap_i64 (by omega))) ?_
                refine GT_st_g rfl rfl rfl rfl rfl rfl rfl (V_index rfl rfl rfl Tryd.underlying62 sz_3 (k := i - 2) (by omega) (by omega) (hy.isSome (k := i) (by omega))) ?_
                refine GT_st_g rfl rfl rfl rfl rfl rfl rfl (V_load rfl rfl ag_3 (CellAt.own0 (k := i - 2) hy eI_len (by omega) (by rw [bgns_get (by omega)]; rfl))) ?_
                refine GT_st_g rfl rfl rfl rfl rfl rfl rfl (V_move rfl rfl) ?_
                refine GT_st_g rfl rfl rfl rfl rfl rfl rfl (V_move rfl rfl) ?_
                refine GT_st_g rfl rfl rfl rfl rfl rfl rfl (V_sub rfl rfl rfl (wrap_i64 (by omega))) ?_
                refine GT_st_g rfl rfl rfl rfl rfl rfl rfl (V_index rfl rfl rfl Tryd.underlying31 sz_30 (k := i - 2) (by omega) (by omega) (hp.isSome (k := i - 2) (by omega))) ?_
                refine GT_st_g rfl rfl rfl rfl rfl rfl rfl (V_loadN (vs := [_, _, _, _, _, _, _]) rfl rfl ag_30 sz_30 rfl (show CellsAt _ _ _ (ePrt (pt p (i - 2))) from hp.ats noM (by omega))) ?_
                refine GT_call0_g rfl rfl rfl rfl rfl rfl rfl rfl rfl rfl rfl rn_56 (fun w hw => C_rLong (x := pt p (i - 2)) (by omega)) (GR_cons_g rfl rfl rfl rfl rfl rfl rfl (V_move rfl rfl) (GR_cons_g rfl rfl rfl rfl rfl rfl rfl (V_move rfl rfl) (GR_cons_g rfl rfl rfl rfl rfl rfl rfl (V_index rfl rfl rfl Tryd.underlying62 sz_3 (k := i) rfl hil (hy.isSome (k := i) (by omega))) (GR_cons_g rfl rfl rfl rfl rfl rfl rfl (V_load rfl rfl ag_3 (CellAt.own0 (k := i) hy eI_len (by omega) (by rw [bgns_get hil]; rfl))) (GR_cons_g rfl rfl rfl rfl rfl rfl rfl (V_move rfl rfl) (GR_cons_g rfl rfl rfl rfl rfl rfl rfl (V_move rfl rfl) (GR_cons_g rfl rfl rfl rfl rfl rfl rfl (V_sub rfl rfl rfl (wrap_i64 (by omega))) (GR_cons_g rfl rfl rfl rfl rfl rfl rfl (V_index rfl rfl rfl Tryd.underlying62 sz_3 (k := i - 2) (by omega) (by omega) (hy.isSome (k := i) (by omega))) (GR_cons_g rfl rfl rfl rfl rfl rfl rfl (V_load rfl rfl ag_3 (CellAt.own0 (k := i - 2) hy eI_len (by omega) (by rw [bgns_get (by omega)]; rfl))) (GR_nil)))))))))) ?_
                refine GT_st_g rfl rfl rfl rfl rfl rfl rfl (V_add rfl rfl rfl (wrap_i64 (by omega))) ?_
                refine GT_st_g rfl rfl rfl rfl rfl rfl rfl (V_lss rfl rfl rfl) ?_
                refine GT_st_g rfl rfl rfl rfl rfl rfl rfl (V_pick_t rfl rfl rfl) ?_
                refine GT_st rfl rfl rfl rfl (V_pick_f rfl rfl rfl) ?_
                refine GT_nil ?_
                first | refine GE_condNot rfl (fun q8 => ?_) (fun q8 => ?_) | refine GE_cond rfl (fun q8 => ?_) (fun q8 => ?_) | refine GE_condNotB rfl (fun q8 => ?_) (fun q8 => ?_) | refine GE_condB rfl (fun q8 => ?_) (fun q8 => ?_)
                · skip
                  refine GE_seq ?_
                  refine GE_slots (L' := []) trivial ?_
                  refine GE_plain (.st 0 .nil) rfl ?_
                  refine GT_st rfl rfl rfl rfl (V_assign rfl rfl) ?_
                  refine GT_nil ?_
                  refine GE_ret Tryd.func53 rfl (fun w hw => ⟨?_, hw.nil⟩)
                  rw [decide_eq_false]; intro hP; have := hP.1 i hil; unfold posOk at this; omega
                · skip
                  refine GE_skip ?_
                  refine GE_inBlock ?_
                  refine GE_slots (L' := [(0, _), (3, _), (4, _), (5, _), (20, _), (21, _), (22, _), (23, _), (24, _), (27, _), (28, _), (29, _), (30, _), (31, _), (32, _), (33, _), (34, _), (35, _), (36, _), (37, _), (38, _), (39, _), (40, _), (41, _), (42, _), (43, _), (44, _), (45, _), (46, _), (47, _), (48, _), (49, _), (50, _), (51, _), (52, _), (53, _), (54, _), (55, _), (56, _), (57, _), (60, _), (61, _), (62, _), (63, _), (64, _), (65, _), (66, _), (67, _), (68, _), (69, _), (70, _), (71, _), (72, _), (73, _), (74, _), (75, _), (76, _), (77, _), (78, _), (79, _), (80, _)]) ⟨rfl, rfl, rfl, rfl, rfl, rfl, rfl, rfl, rfl, rfl, rfl, rfl, rfl, rfl, rfl, rfl, rfl, rfl, rfl, rfl, rfl, rfl, rfl, rfl, rfl, rfl, rfl, rfl, rfl, rfl, rfl, rfl, rfl, rfl, rfl, rfl, rfl, rfl, rfl, rfl, rfl, rfl, rfl, rfl, rfl, rfl, rfl, rfl, rfl, rfl, rfl, rfl, rfl, rfl, rfl, rfl, rfl, rfl, rfl, rfl, rfl, trivial⟩ ?_
                  refine GE_plain (.st 0 (.st 1 (.ld 2 [] .nil))) rfl ?_
                  refine GT_st rfl rfl rfl rfl (V_move rfl rfl) ?_
                  refine GT_st rfl rfl rfl rfl (V_add rfl rfl rfl (wrap_i64 (by omega))) ?_
                  refine GT_ldv rfl rfl rfl rfl rfl (V_assign rfl rfl) (GR_nil) ?_
                  refine GT_nil ?_
                  exact GE_to (ih (i + 1) ⟨by omega, fun j hj => by rcases Nat.lt_or_ge j i with r | r; exact hps j r; rw [show j = i by omega]; unfold posOk; omega⟩ (by omega)) ⟨rfl, rfl, rfl, rfl, trivial⟩ HS.all
              · skip
                refine GT_skip rfl rfl rfl rfl rfl (by decide) rfl rfl ?_
                refine GT_skip rfl rfl rfl rfl rfl (by decide) rfl rfl ?_
                refine GT_skip rfl rfl rfl rfl rfl (by decide) rfl rfl ?_
                refine GT_skip rfl rfl rfl rfl rfl (by decide) rfl rfl ?_
                refine GT_skip rfl rfl rfl rfl rfl (by decide) rfl rfl ?_
                refine GT_skip rfl rfl rfl rfl rfl (by decide) rfl rfl ?_
                refine GT_skip rfl rfl rfl rfl rfl (by decide) rfl rfl ?_
                refine GT_skip rfl rfl rfl rfl rfl (by decide) rfl rfl ?_
                refine GT_skip rfl rfl rfl rfl rfl (by decide) rfl rfl ?_
                refine GT_skip rfl rfl rfl rfl rfl (by decide) rfl rfl ?_
                refine GT_skip rfl rfl rfl rfl rfl (by decide) rfl rfl ?_
                refine GT_skip rfl rfl rfl rfl rfl (by decide) rfl rfl ?_
                refine GT_skip rfl rfl rfl rfl rfl (by decide) rfl rfl ?_
                refine GT_skip rfl rfl rfl rfl rfl (by decide) rfl rfl ?_
                refine GT_skip_ld rfl rfl rfl rfl rfl (by decide) rfl rfl rfl (GR_skip rfl rfl rfl rfl rfl (by decide) rfl rfl (GR_skip rfl rfl rfl rfl rfl (by decide) rfl rfl (GR_skip rfl rfl rfl rfl rfl (by decide) rfl rfl (GR_skip rfl rfl rfl rfl rfl (by decide) rfl rfl (GR_skip rfl rfl rfl rfl rfl (by decide) rfl rfl (GR_skip rfl rfl rfl rfl rfl (by decide) rfl rfl (GR_skip rfl rfl rfl rfl rfl (by decide) rfl rfl (GR_skip rfl rfl rfl rfl rfl (by decide) rfl rfl (GR_skip rfl rfl rfl rfl rfl (by decide) rfl rfl (GR_nil)))))))))) ?_
                refine GT_skip rfl rfl rfl rfl rfl (by decide) rfl rfl ?_
                refine GT_skip rfl rfl rfl rfl rfl (by decide) rfl rfl ?_
                refine GT_st_g rfl rfl rfl rfl rfl rfl rfl (V_pick_f rfl rfl rfl) ?_
                refine GT_st rfl rfl rfl rfl (V_pick_f rfl rfl rfl) ?_
                refine GT_nil ?_
                refine GE_cond_f rfl ?_
                refine GE_skip ?_
                refine GE_inBlock ?_
                refine GE_slots (L' := [(0, _), (3, _), (4, _), (5, _), (20, _), (21, _), (22, _), (23, _), (24, _), (27, _), (28, _), (29, _), (30, _), (31, _), (32, _), (33, _), (34, _), (35, _), (36, _), (37, _), (38, _), (39, _), (40, _), (41, _), (42, _), (43, _), (44, _), (45, _), (46, _), (47, _), (48, _), (49, _), (50, _), (51, _), (52, _), (53, _), (54, _), (55, _), (56, _), (57, _), (60, _), (61, _), (62, _), (63, _), (64, _), (65, _), (66, _), (67, _), (68, _), (69, _), (70, _), (71, _), (72, _), (73, _), (74, _), (75, _), (76, _), (77, _), (78, _), (79, _), (80, _)]) ⟨rfl, rfl, rfl, rfl, rfl, rfl, rfl, rfl, rfl, rfl, rfl, rfl, rfl, rfl, rfl, rfl, rfl, rfl, rfl, rfl, rfl, rfl, rfl, rfl, rfl, rfl, rfl, rfl, rfl, rfl, rfl, rfl, rfl, rfl, rfl, rfl, rfl, rfl, rfl, rfl, rfl, rfl, rfl, rfl, rfl, rfl, rfl, rfl, rfl, rfl, rfl, rfl, rfl, rfl, rfl, rfl, rfl, rfl, rfl, rfl, rfl, trivial⟩ ?_
                refine GE_plain (.st 0 (.st 1 (.ld 2 [] .nil))) rfl ?_
                refine GT_st rfl rfl rfl rfl (V_move rfl rfl) ?_
                refine GT_st rfl rfl rfl rfl (V_add rfl rfl rfl (wrap_i64 (by omega))) ?_
                refine GT_ldv rfl rfl rfl rfl rfl (V_assign rfl rfl) (GR_nil) ?_
                refine GT_nil ?_
                exact GE_to (ih (i + 1) ⟨by omega, fun j hj => by rcases Nat.lt_or_ge j i with r | r; exact hps j r; rw [show j = i by omega]; unfold posOk; omega⟩ (by omega)) ⟨rfl, rfl, rfl, rfl, trivial⟩ HS.all
        · skip
          refine GT_skip rfl rfl rfl rfl rfl (by decide) rfl rfl ?_
          refine GT_skip rfl rfl rfl rfl rfl (by decide) rfl rfl ?_
          refine GT_skip rfl rfl rfl rfl rfl (by decide) rfl rfl ?_
          refine GT_skip rfl rfl rfl rfl rfl (by decide) rfl rfl ?_
          refine GT_skip rfl rfl rfl rfl rfl (by decide) rfl rfl ?_
          refine GT_skip rfl rfl rfl rfl rfl (by decide) rfl rfl ?_
          refine GT_skip rfl rfl rfl rfl rfl (by decide) rfl rfl ?_
          refine GT_skip rfl rfl rfl rfl rfl (by decide) rfl rfl ?_
          refine GT_skip rfl rfl rfl rfl rfl (by decide) rfl rfl ?_
          refine GT_skip_ld rfl rfl rfl rfl rfl (by decide) rfl rfl rfl (GR_skip rfl rfl rfl rfl rfl (by decide) rfl rfl (GR_skip rfl rfl rfl rfl rfl (by decide) rfl rfl (GR_skip rfl rfl rfl rfl rfl (by decide) rfl rfl (GR_skip rfl rfl rfl rfl rfl (by decide) rfl rfl (GR_skip rfl rfl rfl rfl rfl (by decide) rfl rfl (GR_nil)))))) ?_
          refine GT_skip rfl rfl rfl rfl rfl (by decide) rfl rfl ?_
          refine GT_skip rfl rfl rfl rfl rfl (by decide) rfl rfl ?_
          refine GT_skip rfl rfl rfl rfl rfl (by decide) rfl rfl ?_
          refine GT_skip rfl rfl rfl rfl rfl (by decide) rfl rfl ?_
          refine GT_skip rfl rfl rfl rfl rfl (by decide) rfl rfl ?_
          refine GT_skip rfl rfl rfl rfl rfl (by decide) rfl rfl ?_
          refine GT_skip rfl rfl rfl rfl rfl (by decide) rfl rfl ?_
          refine GT_skip rfl rfl rfl rfl rfl (by decide) rfl rfl ?_
          refine GT_skip rfl rfl rfl rfl rfl (by decide) rfl rfl ?_
          refine GT_skip rfl rfl rfl rfl rfl (by decide) rfl rfl ?_
          refine GT_skip rfl rfl rfl rfl rfl (by decide) rfl rfl ?_
          refine GT_skip rfl rfl rfl rfl rfl (by decide) rfl rfl ?_
          refine GT_skip rfl rfl rfl rfl rfl (by decide) rfl rfl ?_
          refine GT_skip_ld rfl rfl rfl rfl rfl (by decide) rfl rfl rfl (GR_skip rfl rfl rfl rfl rfl (by decide) rfl rfl (GR_skip rfl rfl rfl rfl rfl (by decide) rfl rfl (GR_skip rfl rfl rfl rfl rfl (by decide) rfl rfl (GR_skip rfl rfl rfl rfl rfl (by decide) rfl rfl (GR_skip rfl rfl rfl rfl rfl (by decide) rfl rfl (GR_nil)))))) ?_
          refine GT_skip rfl rfl rfl rfl rfl (by decide) rfl rfl ?_
          refine GT_skip rfl rfl rfl rfl rfl (by decide) rfl rfl ?_
          refine GT_skip rfl rfl rfl rfl rfl (by decide) rfl rfl ?_
          refine GT_st_g rfl rfl rfl rfl rfl rfl rfl (V_pick_f rfl rfl rfl) ?_
          refine GT_st rfl rfl rfl rfl (V_pick_f rfl rfl rfl) ?_
          refine GT_st rfl rfl rfl rfl (V_move rfl rfl) ?_
          refine GT_st_g rfl rfl rfl rfl rfl rfl rfl (V_move rfl rfl) ?_
          refine GT_st_g rfl rfl rfl rfl rfl rfl rfl (V_gtr rfl rfl rfl) ?_
          refine GT_st_g rfl rfl rfl rfl rfl rfl rfl (V_move rfl rfl) ?_
          first | refine GT_splitNot (d := 62) rfl (fun q7 => ?_) (fun q7 => ?_) | refine GT_split (d := 62) rfl (fun q7 => ?_) (fun q7 => ?_) | refine GT_splitNotB (d := 62) rfl (fun q7 => ?_) (fun q7 => ?_) | refine GT_splitB (d := 62) rfl (fun q7 => ?_) (fun q7 => ?_)
          · skip
            refine GT_st_g rfl rfl rfl rfl rfl rfl rfl (V_move rfl rfl) ?_
            refine GT_st_g rfl rfl rfl rfl rfl rfl rfl (V_move rfl rfl) ?_
            refine GT_st_g rfl rfl rfl rfl rfl rfl rfl (V_index rfl rfl rfl Tryd.underlying62 sz_3 (k := i) rfl hil (hy.isSome (k := i) (by omega))) ?_
            refine GT_st_g rfl rfl rfl rfl rfl rfl rfl (V_load rfl rfl ag_3 (CellAt.own0 (k := i) hy eI_len (by omega) (by rw [bgns_get hil]; rfl))) ?_
            refine GT_st_g rfl rfl rfl rfl rfl rfl rfl (V_move rfl rfl) ?_
            refine GT_st_g rfl rfl rfl rfl rfl rfl rfl (V_move rfl rfl) ?_
            refine GT_st_g rfl rfl rfl rfl rfl rfl rfl (V_sub rfl rfl rfl (wrap_i64 (by omega))) ?_
            refine GT_st_g rfl rfl rfl rfl rfl rfl rfl (V_index rfl rfl rfl Tryd.underlying62 sz_3 (k := i - 2) (by omega) (by omega) (hy.isSome (k := i) (by omega))) ?_
            refine GT_st_g rfl rfl rfl rfl rfl rfl rfl (V_load rfl rfl ag_3 (CellAt.own0 (k := i - 2) hy eI_len (by omega) (by rw [bgns_get (by omega)]; rfl))) ?_
            refine GT_st_g rfl rfl rfl rfl rfl rfl rfl (V_move rfl rfl) ?_
            refine GT_st_g rfl rfl rfl rfl rfl rfl rfl (V_move rfl rfl) ?_
            refine GT_st_g rfl rfl rfl rfl rfl rfl rfl (V_sub rfl rfl rfl (wrap_i64 (by omega))) ?_
            refine GT_st_g rfl rfl rfl rfl rfl rfl rfl (V_index rfl rfl rfl Tryd.underlying31 sz_30 (k := i - 2) (by omega) (by omega) (hp.isSome (k := i - 2) (by omega))) ?_
            refine GT_st_g rfl rfl rfl rfl rfl rfl rfl (V_loadN (vs := [_, _, _, _, _, _, _]) rfl rfl ag_30 sz_30 rfl (show CellsAt _ _ _ (ePrt (pt p (i - 2))) from hp.ats noM (by omega))) ?_
            refine GT_call0_g rfl rfl rfl rfl rfl rfl rfl rfl rfl rfl rfl rn_56 (fun w hw => C_rLong (x := pt p (i - 2)) (by omega)) (GR_cons_g rfl rfl rfl rfl rfl rfl rfl (V_move rfl rfl) (GR_cons_g rfl rfl rfl rfl rfl rfl rfl (V_move rfl rfl) (GR_cons_g rfl rfl rfl rfl rfl rfl rfl (V_index rfl rfl rfl Tryd.underlying62 sz_3 (k := i) rfl hil (hy.isSome (k := i) (by omega))) (GR_cons_g rfl rfl rfl rfl rfl rfl rfl (V_load rfl rfl ag_3 (CellAt.own0 (k := i) hy eI_len (by omega) (by rw [bgns_get hil]; rfl))) (GR_cons_g rfl rfl rfl rfl rfl rfl rfl (V_move rfl rfl) (GR_cons_g rfl rfl rfl rfl rfl rfl rfl (V_move rfl rfl) (GR_cons_g rfl rfl rfl rfl rfl rfl rfl (V_sub rfl rfl rfl (wrap_i64 (by omega))) (GR_cons_g rfl rfl rfl rfl rfl rfl rfl (V_index rfl rfl rfl Tryd.underlying62 sz_3 (k := i - 2) (by omega) (by omega) (hy.isSome (k := i) (by omega))) (GR_cons_g rfl rfl rfl rfl rfl rfl rfl (V_load rfl rfl ag_3 (CellAt.own0 (k := i - 2) hy eI_len (by omega) (by rw [bgns_get (by omega)]; rfl))) (GR_nil)))))))))) ?_
            refine GT_st_g rfl rfl rfl rfl rfl rfl rfl (V_add rfl rfl rfl (wrap_i64 (by omega))) ?_
            refine GT_st_g rfl rfl rfl rfl rfl rfl rfl (V_lss rfl rfl rfl) ?_
            refine GT_st_g rfl rfl rfl rfl rfl rfl rfl (V_pick_t rfl rfl rfl) ?_
            refine GT_st rfl rfl rfl rfl (V_pick_f rfl rfl rfl) ?_
            refine GT_nil ?_
            first | refine GE_condNot rfl (fun q8 => ?_) (fun q8 => ?_) | refine GE_cond rfl (fun q8 => ?_) (fun q8 => ?_) | refine GE_condNotB rfl (fun q8 => ?_) (fun q8 => ?_) | refine GE_condB rfl (fun q8 => ?_) (fun q8 => ?_)
            · skip
              refine GE_seq ?_
              refine GE_slots (L' := []) trivial ?_
              refine GE_plain (.st 0 .nil) rfl ?_
              refine GT_st rfl rfl rfl rfl (V_assign rfl rfl) ?_
              refine GT_nil ?_
              refine GE_ret Tryd.func53 rfl (fun w hw => ⟨?_, hw.nil⟩)
              rw [decide_eq_false]; intro hP; have := hP.1 i hil; unfold posOk at this; omega
            · skip
              refine GE_skip ?_
              refine GE_inBlock ?_
              refine GE_slots (L' := [(0, _), (3, _), (4, _), (5, _), (20, _), (21, _), (22, _), (23, _), (24, _), (27, _), (28, _), (29, _), (30, _), (31, _), (32, _), (33, _), (34, _), (35, _), (36, _), (37, _), (38, _), (39, _), (40, _), (41, _), (42, _), (43, _), (44, _), (45, _), (46, _), (47, _), (48, _), (49, _), (50, _), (51, _), (52, _), (53, _), (54, _), (55, _), (56, _), (57, _), (60, _), (61, _), (62, _), (63, _), (64, _), (65, _), (66, _), (67, _), (68, _), (69, _), (70, _), (71, _), (72, _), (73, _), (74, _), (75, _), (76, _), (77, _), (78, _), (79, _), (80, _)]) ⟨rfl, rfl, rfl, rfl, rfl, rfl, rfl, rfl, rfl, rfl, rfl, rfl, rfl, rfl, rfl, rfl, rfl, rfl, rfl, rfl, rfl, rfl, rfl, rfl, rfl, rfl, rfl, rfl, rfl, rfl, rfl, rfl, rfl, rfl, rfl, rfl, rfl, rfl, rfl, rfl, rfl, rfl, rfl, rfl, rfl, rfl, rfl, rfl, rfl, rfl, rfl, rfl, rfl, rfl, rfl, rfl, rfl, rfl, rfl, rfl, rfl, trivial⟩ ?_
              refine GE_plain (.st 0 (.st 1 (.ld 2 [] .nil))) rfl ?_
              refine GT_st rfl rfl rfl rfl (V_move rfl rfl) ?_
              refine GT_st rfl rfl rfl rfl (V_add rfl rfl rfl (wrap_i64 (by omega))) ?_
              refine GT_ldv rfl rfl rfl rfl rfl (V_assign rfl rfl) (GR_nil) ?_
              refine GT_nil ?_
              exact GE_to (ih (i + 1) ⟨by omega, fun j hj => by rcases Nat.lt_or_ge j i with r | r; exact hps j r; rw [show j = i by omega]; unfold posOk; omega⟩ (by omega)) ⟨rfl, rfl, rfl, rfl, trivial⟩ HS.all
          · skip
            refine GT_skip rfl rfl rfl rfl rfl (by decide) rfl rfl ?_
            refine GT_skip rfl rfl rfl rfl rfl (by decide) rfl rfl ?_
            refine GT_skip rfl rfl rfl rfl rfl (by decide) rfl rfl ?_
            refine GT_skip rfl rfl rfl rfl rfl (by decide) rfl rfl ?_
            refine GT_skip rfl rfl rfl rfl rfl (by decide) rfl rfl ?_
            refine GT_skip rfl rfl rfl rfl rfl (by decide) rfl rfl ?_
            refine GT_skip rfl rfl rfl rfl rfl (by decide) rfl rfl ?_
            refine GT_skip rfl rfl rfl rfl rfl (by decide) rfl rfl ?_
            refine GT_skip rfl rfl rfl rfl rfl (by decide) rfl rfl ?_
            refine GT_skip rfl rfl rfl rfl rfl (by decide) rfl rfl ?_
            refine GT_skip rfl rfl rfl rfl rfl (by decide) rfl rfl ?_
            refine GT_skip rfl rfl rfl rfl rfl (by decide) rfl rfl ?_
            refine GT_skip rfl rfl rfl rfl rfl (by decide) rfl rfl ?_
            refine GT_skip rfl rfl rfl rfl rfl (by decide) rfl rfl ?_
            refine GT_skip_ld rfl rfl rfl rfl rfl (by decide) rfl rfl rfl (GR_skip rfl rfl rfl rfl rfl (by decide) rfl rfl (GR_skip rfl rfl rfl rfl rfl (by decide) rfl rfl (GR_skip rfl rfl rfl rfl rfl (by decide) rfl rfl (GR_skip rfl rfl rfl rfl rfl (by decide) rfl rfl (GR_skip rfl rfl rfl rfl rfl (by decide) rfl rfl (GR_skip rfl rfl rfl rfl rfl (by decide) rfl rfl (GR_skip rfl rfl rfl rfl rfl (by decide) rfl rfl (GR_skip rfl rfl rfl rfl rfl (by decide) rfl rfl (GR_skip rfl rfl rfl rfl rfl (by decide) rfl rfl (GR_nil)))))))))) ?_
            refine GT_skip rfl rfl rfl rfl rfl (by decide) rfl rfl ?_
            refine GT_skip rfl rfl rfl rfl rfl (by decide) rfl rfl ?_
            refine GT_st_g rfl rfl rfl rfl rfl rfl rfl (V_pick_f rfl rfl rfl) ?_
            refine GT_st rfl rfl rfl rfl (V_pick_f rfl rfl rfl) ?_
            refine GT_nil ?_
            refine GE_cond_f rfl ?_
            refine GE_skip ?_
            refine GE_inBlock ?_
            refine GE_slots (L' := [(0, _), (3, _), (4, _), (5, _), (20, _), (21, _), (22, _), (23, _), (24, _), (27, _), (28, _), (29, _), (30, _), (31, _), (32, _), (33, _), (34, _), (35, _), (36, _), (37, _), (38, _), (39, _), (40, _), (41, _), (42, _), (43, _), (44, _), (45, _), (46, _), (47, _), (48, _), (49, _), (50, _), (51, _), (52, _), (53, _), (54, _), (55, _), (56, _), (57, _), (60, _), (61, _), (62, _), (63, _), (64, _), (65, _), (66, _), (67, _), (68, _), (69, _), (70, _), (71, _), (72, _), (73, _), (74, _), (75, _), (76, _), (77, _), (78, _), (79, _), (80, _)]) ⟨rfl, rfl, rfl, rfl, rfl, rfl, rfl, rfl, rfl, rfl, rfl, rfl, rfl, rfl, rfl, rfl, rfl, rfl, rfl, rfl, rfl, rfl, rfl, rfl, rfl, rfl, rfl, rfl, rfl, rfl, rfl, rfl, rfl, rfl, rfl, rfl, rfl, rfl, rfl, rfl, rfl, rfl, rfl, rfl, rfl, rfl, rfl, rfl, rfl, rfl, rfl, rfl, rfl, rfl, rfl, rfl, rfl, rfl, rfl, rfl, rfl, trivial⟩ ?_
            refine GE_plain (.st 0 (.st 1 (.ld 2 [] .nil))) rfl ?_
            refine GT_st rfl rfl rfl rfl (V_move rfl rfl) ?_
            refine GT_st rfl rfl rfl rfl (V_add rfl rfl rfl (wrap_i64 (by omega))) ?_
            refine GT_ldv rfl rfl rfl rfl rfl (V_assign rfl rfl) (GR_nil) ?_
            refine GT_nil ?_
            exact GE_to (ih (i + 1) ⟨by omega, fun j hj => by rcases Nat.lt_or_ge j i with r | r; exact hps j r; rw [show j = i by omega]; unfold posOk; omega⟩ (by omega)) ⟨rfl, rfl, rfl, rfl, trivial⟩ HS.all
    · skip
      refine GE_exit rfl ?_
      refine GE_seq ?_
      refine GE_slots (L' := [(4, _)]) ⟨rfl, trivial⟩ ?_
      refine GE_plain (.st 0 (.st 1 (.st 2 .nil))) rfl ?_
      refine GT_st rfl rfl rfl rfl (V_move rfl rfl) ?_
      refine GT_st rfl rfl rfl rfl (V_leq rfl rfl rfl) ?_
      refine GT_st rfl rfl rfl rfl (V_assign rfl rfl) ?_
      refine GT_nil ?_
      refine GE_ret Tryd.func53 rfl (fun w hw => ⟨?_, hw.nil⟩)
      first | (rw [decide_eq_false]; intro hP; have := hP.1 i hil; unfold posOk at this; omega) | (refine congrArg Value.bool (decide_eq_decide.2 ⟨fun h => ⟨fun j hj => hps j (by omega), h⟩, fun h => h.2⟩))
  · exact ⟨Nat.zero_le _, fun i hi => absurd hi (Nat.not_lt_zero _)⟩
theorem C_rCheckProgramme (h : Tks w A l) (hp : RdL w 7 ePrt A2 p) : Con0 Tryd.prog 21 [.slice A l.length c, .slice A2 p.length c2] w (I (gErr l p)) := by
  refine Ret_of (vs := [_, _]) hm none' Tryd.func21 rfl Tryd.ntmps21 rfl ?_
  dsimp only [slotsOf]
  refine GE_seq ?_
  refine GE_plain (.st 0 .nil) rfl ?_
  refine GT_st rfl rfl rfl rfl (V_assign rfl rfl) ?_
  refine GT_nil ?_
  refine GE_seq ?_
  refine GE_seq ?_
  refine GE_plain (.st 0 (.ld 1 [] (.st 2 .nil))) rfl ?_
  refine GT_st rfl rfl rfl rfl (V_move rfl rfl) ?_
  refine GT_call0 rfl rfl rfl rfl rfl rfl rfl rfl rn_38 (fun w hw => C_rCheckTakes (h.sh hw)) (GR_nil) ?_
  refine GT_st rfl rfl rfl rfl (V_neq rfl rfl rfl) ?_
  refine GT_nil ?_
  first | refine GE_condNot rfl (fun q1 => ?_) (fun q1 => ?_) | refine GE_cond rfl (fun q1 => ?_) (fun q1 => ?_) | refine GE_condNotB rfl (fun q1 => ?_) (fun q1 => ?_) | refine GE_condB rfl (fun q1 => ?_) (fun q1 => ?_)
  · skip
    refine GE_seq ?_
    refine GE_slots (L' := [(0, _)]) ⟨rfl, trivial⟩ ?_
    refine GE_plain (.st 0 (.ld 1 [] (.st 2 .nil))) rfl ?_
    refine GT_st rfl rfl rfl rfl (V_move rfl rfl) ?_
    refine GT_call0 rfl rfl rfl rfl rfl rfl rfl rfl rn_38 (fun w hw => C_rCheckTakes (h.sh hw)) (GR_nil) ?_
    refine GT_st rfl rfl rfl rfl (V_assign rfl rfl) ?_
    refine GT_nil ?_
    refine GE_ret Tryd.func21 rfl (fun w hw => ⟨?_, hw.nil⟩)
    rw [gErr, if_neg q1]
  · have hl := lErr_zero.1 q1
    refine GE_skip ?_
    refine GE_seq ?_
    refine GE_seq ?_
    refine GE_slots (L' := [(0, _), (1, _)]) ⟨rfl, rfl, trivial⟩ ?_
    refine GE_plain (.st 0 (.st 1 (.st 2 .nil))) rfl ?_
    refine GT_st rfl rfl rfl rfl (V_move rfl rfl) ?_
    refine GT_st rfl rfl rfl rfl (V_len rfl Tryd.underlying31 rfl) ?_
    refine GT_st rfl rfl rfl rfl (V_gtr rfl rfl rfl) ?_
    refine GT_nil ?_
    first | refine GE_condNot rfl (fun q2 => ?_) (fun q2 => ?_) | refine GE_cond rfl (fun q2 => ?_) (fun q2 => ?_) | refine GE_condNotB rfl (fun q2 => ?_) (fun q2 => ?_) | refine GE_condB rfl (fun q2 => ?_) (fun q2 => ?_)
    · skip
      refine GE_seq ?_
      refine GE_slots (L' := []) trivial ?_
      refine GE_plain (.st 0 .nil) rfl ?_
      refine GT_st rfl rfl rfl rfl (V_assign rfl rfl) ?_
      refine GT_nil ?_
      refine GE_ret Tryd.func21 rfl (fun w hw => ⟨?_, hw.nil⟩)
      rw [gErr, if_pos q1, if_pos (by omega)]
    · skip
      refine GE_skip ?_
      refine GE_seq ?_
      refine GE_seq ?_
      refine GE_plain (.st 0 .nil) rfl ?_
      refine GT_st rfl rfl rfl rfl (V_assign rfl rfl) ?_
      refine GT_nil ?_
      refine GE_block ?_
      refine GE_to (GE_loop (ι := Nat) (fun k => p.length - k) (fun k => [(0, .slice A l.length c), (1, .slice A2 p.length c2), (5, I k)]) (fun k => []) (fun k => k ≤ p.length ∧ ∀ i, i < k → goodP l (pt p i) = true) ?_ 0 ?_) ⟨rfl, rfl, rfl, trivial⟩ HS.nil
      · rintro k ⟨hk, hgd⟩ ih
        refine GE_seq ?_
        refine GE_seq ?_
        refine GE_plain (.st 0 (.st 1 (.st 2 (.st 3 .nil)))) rfl ?_
        refine GT_st rfl rfl rfl rfl (V_move rfl rfl) ?_
        refine GT_st rfl rfl rfl rfl (V_move rfl rfl) ?_
        refine GT_st rfl rfl rfl rfl (V_len rfl Tryd.underlying31 rfl) ?_
        refine GT_st rfl rfl rfl rfl (V_lss rfl rfl rfl) ?_
        refine GT_nil ?_
        first | refine GE_condNot rfl (fun q3 => ?_) (fun q3 => ?_) | refine GE_cond rfl (fun q3 => ?_) (fun q3 => ?_) | refine GE_condNotB rfl (fun q3 => ?_) (fun q3 => ?_) | refine GE_condB rfl (fun q3 => ?_) (fun q3 => ?_)
        · have hkl : k < p.length := (by omega)
          refine GE_skip ?_
          refine GE_seq ?_
          refine GE_block ?_
          refine GE_seq ?_
          refine GE_slots (L' := [(0, _), (1, _), (5, _)]) ⟨rfl, rfl, rfl, trivial⟩ ?_
          refine GE_plain (.st 0 (.st 1 (.st 2 (.st 3 (.st 4 (.ld 5 [] (.st 6 .nil))))))) rfl ?_
          refine GT_st rfl rfl rfl rfl (V_move rfl rfl) ?_
          refine GT_st rfl rfl rfl rfl (V_move rfl rfl) ?_
          refine GT_st rfl rfl rfl rfl (V_move rfl rfl) ?_
          refine GT_st rfl rfl rfl rfl (V_index rfl rfl rfl Tryd.underlying31 sz_30 (k := k) rfl hkl (hp.isSome hkl)) ?_
          refine GT_st rfl rfl rfl rfl (V_loadN (vs := [_, _, _, _, _, _, _]) rfl rfl ag_30 sz_30 rfl (show CellsAt _ _ _ (ePrt (pt p k)) from hp.ats noM hkl)) ?_
          refine GT_call0 rfl rfl rfl rfl rfl rfl rfl rfl rn_52 (fun w hw => C_rpart (x := pt p k) (h.sh hw)) (GR_nil) ?_
          first | refine GT_st rfl rfl rfl rfl (V_not rfl rfl) ?_ | refine GT_st rfl rfl rfl rfl (V_notB rfl rfl) ?_
          refine GT_nil ?_
          first | refine GE_condNot rfl (fun q4 => ?_) (fun q4 => ?_) | refine GE_cond rfl (fun q4 => ?_) (fun q4 => ?_) | refine GE_condNotB rfl (fun q4 => ?_) (fun q4 => ?_) | refine GE_condB rfl (fun q4 => ?_) (fun q4 => ?_)
          · skip
            refine GE_seq ?_
            refine GE_slots (L' := []) trivial ?_
            refine GE_plain (.st 0 .nil) rfl ?_
            refine GT_st rfl rfl rfl rfl (V_assign rfl rfl) ?_
            refine GT_nil ?_
            refine GE_ret Tryd.func21 rfl (fun w hw => ⟨?_, hw.nil⟩)
            rw [gErr, if_pos q1, if_neg (by omega), if_neg (by rw [all_split hkl q4]; decide)]
          · skip
            refine GE_skip ?_
            refine GE_inBlock ?_
            refine GE_slots (L' := [(0, _), (1, _), (5, _)]) ⟨rfl, rfl, rfl, trivial⟩ ?_
            refine GE_plain (.st 0 (.st 1 (.ld 2 [] .nil))) rfl ?_
            refine GT_st rfl rfl rfl rfl (V_move rfl rfl) ?_
            refine GT_st rfl rfl rfl rfl (V_add rfl rfl rfl (wrap_i64 (by omega))) ?_
            refine GT_ldv rfl rfl rfl rfl rfl (V_assign rfl rfl) (GR_nil) ?_
            refine GT_nil ?_
            exact GE_to (ih (k + 1) ⟨by omega, fun i hi => by rcases Nat.lt_or_ge i k with r | r; exact hgd i r; rw [show i = k by omega]; exact q4⟩ (by omega)) ⟨rfl, rfl, rfl, trivial⟩ HS.nil
        · have hG : Gd l p := ⟨hl, by omega, fun i hi => goodP_iff.1 (hgd i (by omega))⟩; have hall : p.all (goodP l) = true := all_getD.2 fun i hi => hgd i (by omega)
          refine GE_exit rfl ?_
          refine GE_seq ?_
          refine GE_seq ?_
          refine GE_slots (L' := [(1, _)]) ⟨rfl, trivial⟩ ?_
          refine GE_plain (.st 0 (.ld 1 [] (.st 2 .nil))) rfl ?_
          refine GT_st rfl rfl rfl rfl (V_move rfl rfl) ?_
          refine GT_call0 rfl rfl rfl rfl rfl rfl rfl rfl rn_53 (fun w hw => C_rpossible hG (hp.sh hw)) (GR_nil) ?_
          first | refine GT_st rfl rfl rfl rfl (V_not rfl rfl) ?_ | refine GT_st rfl rfl rfl rfl (V_notB rfl rfl) ?_
          refine GT_nil ?_
          first | refine GE_condNot rfl (fun q5 => ?_) (fun q5 => ?_) | refine GE_cond rfl (fun q5 => ?_) (fun q5 => ?_) | refine GE_condNotB rfl (fun q5 => ?_) (fun q5 => ?_) | refine GE_condB rfl (fun q5 => ?_) (fun q5 => ?_)
          · skip
            refine GE_seq ?_
            refine GE_slots (L' := []) trivial ?_
            refine GE_plain (.st 0 .nil) rfl ?_
            refine GT_st rfl rfl rfl rfl (V_assign rfl rfl) ?_
            refine GT_nil ?_
            refine GE_ret Tryd.func21 rfl (fun w hw => ⟨?_, hw.nil⟩)
            first | rw [gErr, if_pos q1, if_neg (by omega), if_pos hall, if_neg q5] | rw [gErr, if_pos q1, if_neg (by omega), if_pos hall, if_neg (of_decide_eq_false q5)]
          · skip
            refine GE_skip ?_
            refine GE_seq ?_
            refine GE_slots (L' := []) trivial ?_
            refine GE_plain (.st 0 .nil) rfl ?_
            refine GT_st rfl rfl rfl rfl (V_assign rfl rfl) ?_
            refine GT_nil ?_
            refine GE_ret Tryd.func21 rfl (fun w hw => ⟨?_, hw.nil⟩)
            first | rw [gErr, if_pos q1, if_neg (by omega), if_pos hall, if_pos q5] | rw [gErr, if_pos q1, if_neg (by omega), if_pos hall, if_pos (of_decide_eq_true q5)]
      · exact ⟨Nat.zero_le _, fun i hi => absurd hi (Nat.not_lt_zero _)⟩
end
end Go.Proofs.YtnklkobhjdkblaaDoor
