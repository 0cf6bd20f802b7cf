/- Samples, names, takes: which are valid, walked. -/
import Derived.Test.YtdcjgjopmicidaaDoorSxH
import Derived.Test.YtdcjgjopmicidaaDoorFa
import Derived.Test.YtdcjgjopmicidaaDoorTaT
import Derived.Test.YtdcjgjopmicidaaDoorTaL
namespace Go.Proofs.YtdcjgjopmicidaaDoor
open Go.Sx Go.Proofs Go.RowKit

def cutB : List UInt8 := [97, 98, 99, 100, 101, 102, 103, 104, 105, 106, 107, 108, 109, 110, 111, 112, 113, 114, 115, 116, 117, 118, 119, 120, 121, 122, 48, 49, 50, 51, 52, 53, 54, 55, 56, 57]
theorem nmB_cut : ∀ b : UInt8, cutB.contains b = nmB b := by
  have h : ∀ n : Fin 256, cutB.contains (UInt8.ofNat n.val) = nmB (UInt8.ofNat n.val) := by decide +kernel
  intro b
  have := h ⟨b.toNat, b.toNat_lt⟩
  simpa using this
theorem dropWhile_nil {α : Type} {f : α → Bool} {l : List α} : l.dropWhile f = [] ↔ l.all f = true := by
  induction l with
  | nil => simp
  | cons x l ih =>
    rw [List.dropWhile_cons, List.all_cons]
    by_cases h : f x = true
    · rw [if_pos h, h, Bool.true_and]; exact ih
    · rw [if_neg h]; simp [h]
theorem trimS_nil {l cs : List UInt8} : Go.Lib.trimS l cs = [] ↔ l.all (cs.contains ·) = true := by
  unfold Go.Lib.trimS Go.Lib.trimLeftS Go.Lib.trimRightS
  rw [dropWhile_nil]
  constructor
  · intro h
    rw [List.all_reverse] at h
    by_cases hn : l.reverse.dropWhile (cs.contains ·) = []
    · rw [dropWhile_nil, List.all_reverse] at hn; exact hn
    · have h1 := List.head_dropWhile_not (p := (cs.contains ·)) (l := l.reverse) hn
      rw [List.all_eq_true] at h
      have h2 := h _ (List.head_mem hn)
      rw [h2] at h1; cases h1
  · intro h
    rw [dropWhile_nil.2 (by rw [List.all_reverse]; exact h)]; rfl
theorem str_nil {s : ByteArray} : s = ⟨#[]⟩ ↔ s.size = 0 := by
  constructor
  · rintro rfl; rfl
  · intro h
    obtain ⟨⟨l⟩⟩ := s
    have : l.length = 0 := h
    rw [List.length_eq_zero_iff.1 this]
theorem SH.ofBelow {w w' : World} (h : Below w.heap.size w w') : SH w none' [] w' := ⟨h.os, h.tape, h.output, h.size, fun k hk _ => h.block k hk, by simp, by simp⟩
theorem C_Trim {s : ByteArray} {w : World} (hs : s.size ≤ maxLen) : Con0 Tryd.prog 40 [.string s, .string ⟨cutB.toArray⟩] w (.string ⟨(Go.Lib.trimS s.data.toList cutB).toArray⟩) := by
  unfold maxLen at hs
  have h := Any.strings_Trim_laid Tryd.lays160 (by kernel_rfl) s ⟨cutB.toArray⟩ w (by omega) (by decide) (ascii_of_all (by decide))
  refine Calls.mono h fun e w' he => ?_
  obtain ⟨rfl, hb⟩ := he
  exact ⟨rfl, SH.ofBelow hb⟩
section
variable {w : World}
theorem C_between {x lo hi : Int} : Con0 Tryd.prog 28 [I x, I lo, I hi] w (.bool (betw x lo hi)) := by
  have hd : ∀ q : Bool, (betw x lo hi = true ↔ q = true) → Value.bool q = Value.bool (betw x lo hi) := fun q hq => congrArg Value.bool (by rw [Bool.eq_iff_iff, hq])
  refine Ret_of (vs := [_, _, _]) hm none' Tryd.func28 rfl Tryd.ntmps28 rfl ?_
  dsimp only [slotsOf]
  refine GE_seq ?_
  refine GE_plain (.st 0 .nil) rfl ?_
  refine GT_st rfl rfl rfl rfl (V_assign rfl rfl) ?_
  refine GT_nil ?_
  refine GE_seq ?_
  refine GE_plain (.st 0 (.st 1 (.st 2 (.st 3 (.st 4 (.st 5 (.st 6 (.st 7 (.st 8 .nil))))))))) rfl ?_
  refine GT_st rfl rfl rfl rfl (V_move rfl rfl) ?_
  refine GT_st rfl rfl rfl rfl (V_move rfl rfl) ?_
  refine GT_st rfl rfl rfl rfl (V_geq rfl rfl rfl) ?_
  refine GT_st rfl rfl rfl rfl (V_move rfl rfl) ?_
  first | refine GT_splitNot (d := 10) rfl (fun h1 => ?_) (fun h1 => ?_) | refine GT_split (d := 10) rfl (fun h1 => ?_) (fun h1 => ?_) | refine GT_splitNotB (d := 10) rfl (fun h1 => ?_) (fun h1 => ?_) | refine GT_splitB (d := 10) rfl (fun h1 => ?_) (fun h1 => ?_)
  · skip
    refine GT_st_g rfl rfl rfl rfl rfl rfl rfl (V_move rfl rfl) ?_
    refine GT_st_g rfl rfl rfl rfl rfl rfl rfl (V_move rfl rfl) ?_
    refine GT_st_g rfl rfl rfl rfl rfl rfl rfl (V_leq rfl rfl rfl) ?_
    refine GT_st rfl rfl rfl rfl (V_pick_t rfl rfl rfl) ?_
    refine GT_st rfl rfl rfl rfl (V_assign rfl rfl) ?_
    refine GT_nil ?_
    refine GE_ret Tryd.func28 rfl (fun w hw => ⟨?_, hw.nil⟩)
    refine hd _ ?_; rw [betw_iff]; (first | (simp; done) | (simp; omega))
  · skip
    refine GT_skip rfl rfl rfl rfl rfl (by decide) rfl rfl ?_
    refine GT_skip rfl rfl rfl rfl rfl (by decide) rfl rfl ?_
    refine GT_skip rfl rfl rfl rfl rfl (by decide) rfl rfl ?_
    refine GT_st rfl rfl rfl rfl (V_pick_f rfl rfl rfl) ?_
    refine GT_st rfl rfl rfl rfl (V_assign rfl rfl) ?_
    refine GT_nil ?_
    refine GE_ret Tryd.func28 rfl (fun w hw => ⟨?_, hw.nil⟩)
    refine hd _ ?_; rw [betw_iff]; (first | (simp; done) | (simp; omega))
theorem C_valid {x : Sam} : Con0 Tryd.prog 39 [.agg #[I x.l, I x.r]] w (.bool x.ok) := by
  refine Ret_of (vs := [_]) hm none' Tryd.func39 rfl Tryd.ntmps39 rfl ?_
  dsimp only [slotsOf]
  refine GE_seq ?_
  refine GE_plain (.ld 0 [] (.st 1 .nil)) rfl ?_
  refine GT_box (z := [_, _]) rfl rfl rfl rfl rfl rfl rfl (fun _ => GR_nil) (fun b1 => ?_)
  refine GT_st rfl rfl rfl rfl (V_assign rfl rfl) ?_
  refine GT_nil ?_
  refine GE_seq ?_
  refine GE_plain (.st 0 (.st 1 (.ld 2 [] (.st 3 (.st 4 (.st 5 (.ld 6 [] (.st 7 (.st 8 .nil))))))))) rfl ?_
  first | refine GT_st rfl rfl rfl rfl (V_field rfl rfl fo_45_0) ?_ | refine GT_st rfl rfl rfl rfl (V_fieldA rfl rfl fo_45_0) ?_
  refine GT_st rfl rfl rfl rfl (V_load rfl rfl ag_2 (CellAt.item rfl)) ?_
  refine GT_call0 rfl rfl rfl rfl rfl rfl rfl rfl rn_28 (fun w hw => C_between) (GR_nil) ?_
  refine GT_st rfl rfl rfl rfl (V_move rfl rfl) ?_
  first | refine GT_splitNot (d := 6) rfl (fun h1 => ?_) (fun h1 => ?_) | refine GT_split (d := 6) rfl (fun h1 => ?_) (fun h1 => ?_) | refine GT_splitNotB (d := 6) rfl (fun h1 => ?_) (fun h1 => ?_) | refine GT_splitB (d := 6) rfl (fun h1 => ?_) (fun h1 => ?_)
  · skip
    first | refine GT_st_g rfl rfl rfl rfl rfl rfl rfl (V_field rfl rfl fo_45_1) ?_ | refine GT_st_g rfl rfl rfl rfl rfl rfl rfl (V_fieldA rfl rfl fo_45_1) ?_
    refine GT_st_g rfl rfl rfl rfl rfl rfl rfl (V_load rfl rfl ag_2 (CellAt.item rfl)) ?_
    refine GT_call0_g rfl rfl rfl rfl rfl rfl rfl rfl rfl rfl rfl rn_28 (fun w hw => C_between) (GR_nil) ?_
    refine GT_st rfl rfl rfl rfl (V_pick_t rfl rfl rfl) ?_
    refine GT_st rfl rfl rfl rfl (V_assign rfl rfl) ?_
    refine GT_nil ?_
    refine GE_ret Tryd.func39 rfl (fun w hw => ⟨?_, hw.nil⟩)
    unfold Sam.ok; simp_all
  · skip
    refine GT_skip rfl rfl rfl rfl rfl (by decide) rfl rfl ?_
    refine GT_skip rfl rfl rfl rfl rfl (by decide) rfl rfl ?_
    refine GT_skip_ld rfl rfl rfl rfl rfl (by decide) rfl rfl rfl (GR_nil) ?_
    refine GT_st rfl rfl rfl rfl (V_pick_f rfl rfl rfl) ?_
    refine GT_st rfl rfl rfl rfl (V_assign rfl rfl) ?_
    refine GT_nil ?_
    refine GE_ret Tryd.func39 rfl (fun w hw => ⟨?_, hw.nil⟩)
    unfold Sam.ok; simp_all
theorem C_isName {s : ByteArray} (hs : s.size ≤ maxLen) : Con0 Tryd.prog 31 [.string s] w (.bool (isNm s)) := by
  have e0 := str_nil (s := s)
  have e1 : (⟨(Go.Lib.trimS s.data.toList cutB).toArray⟩ : ByteArray) = ⟨#[]⟩ ↔ s.data.toList.all nmB = true := by
    have : (cutB.contains ·) = nmB := funext nmB_cut
    rw [← this, ← trimS_nil]
    constructor
    · intro h; injection h with h; simpa using h
    · intro h; rw [h]
  refine Ret_of (vs := [_]) hm none' Tryd.func31 rfl Tryd.ntmps31 rfl ?_
  dsimp only [slotsOf]
  refine GE_seq ?_
  refine GE_plain (.st 0 .nil) rfl ?_
  refine GT_st rfl rfl rfl rfl (V_assign rfl rfl) ?_
  refine GT_nil ?_
  refine GE_seq ?_
  refine GE_plain (.st 0 (.st 1 (.st 2 (.st 3 (.st 4 (.st 5 (.st 6 (.st 7 (.st 8 (.ld 9 [] (.st 10 (.st 11 (.st 12 .nil))))))))))))) rfl ?_
  refine GT_st rfl rfl rfl rfl (V_move rfl rfl) ?_
  refine GT_st rfl rfl rfl rfl (V_neqStr rfl rfl rfl) ?_
  refine GT_st rfl rfl rfl rfl (V_move rfl rfl) ?_
  first | refine GT_splitNot (d := 5) rfl (fun h1 => ?_) (fun h1 => ?_) | refine GT_split (d := 5) rfl (fun h1 => ?_) (fun h1 => ?_) | refine GT_splitNotB (d := 5) rfl (fun h1 => ?_) (fun h1 => ?_) | refine GT_splitB (d := 5) rfl (fun h1 => ?_) (fun h1 => ?_)
  · skip
    refine GT_st_g rfl rfl rfl rfl rfl rfl rfl (V_move rfl rfl) ?_
    refine GT_st_g rfl rfl rfl rfl rfl rfl rfl (V_len_str rfl Tryd.underlying9 rfl) ?_
    refine GT_st_g rfl rfl rfl rfl rfl rfl rfl (V_leq rfl rfl rfl) ?_
    refine GT_st rfl rfl rfl rfl (V_pick_t rfl rfl rfl) ?_
    refine GT_st rfl rfl rfl rfl (V_move rfl rfl) ?_
    first | refine GT_splitNot (d := 10) rfl (fun h2 => ?_) (fun h2 => ?_) | refine GT_split (d := 10) rfl (fun h2 => ?_) (fun h2 => ?_) | refine GT_splitNotB (d := 10) rfl (fun h2 => ?_) (fun h2 => ?_) | refine GT_splitB (d := 10) rfl (fun h2 => ?_) (fun h2 => ?_)
    · skip
      refine GT_st_g rfl rfl rfl rfl rfl rfl rfl (V_move rfl rfl) ?_
      refine GT_call0_g rfl rfl rfl rfl rfl rfl rfl rfl rfl rfl rfl rn_40 (fun w hw => C_Trim hs) (GR_nil) ?_
      refine GT_st_g rfl rfl rfl rfl rfl rfl rfl (V_eqlStr rfl rfl rfl) ?_
      refine GT_st rfl rfl rfl rfl (V_pick_t rfl rfl rfl) ?_
      refine GT_st rfl rfl rfl rfl (V_assign rfl rfl) ?_
      refine GT_nil ?_
      refine GE_ret Tryd.func31 rfl (fun w hw => ⟨?_, hw.nil⟩)
      refine congrArg Value.bool ?_; unfold isNm; rw [Bool.eq_iff_iff]; simp only [Bool.and_eq_true, decide_eq_true_iff, Bool.false_eq_true, false_iff, e1]; rw [e0] at h1; first | omega | exact ⟨fun h => ⟨⟨by omega, by omega⟩, h⟩, fun h => h.2⟩
    · skip
      refine GT_skip rfl rfl rfl rfl rfl (by decide) rfl rfl ?_
      refine GT_skip_ld rfl rfl rfl rfl rfl (by decide) rfl rfl rfl (GR_nil) ?_
      refine GT_skip rfl rfl rfl rfl rfl (by decide) rfl rfl ?_
      refine GT_st rfl rfl rfl rfl (V_pick_f rfl rfl rfl) ?_
      refine GT_st rfl rfl rfl rfl (V_assign rfl rfl) ?_
      refine GT_nil ?_
      refine GE_ret Tryd.func31 rfl (fun w hw => ⟨?_, hw.nil⟩)
      refine congrArg Value.bool ?_; unfold isNm; rw [Bool.eq_iff_iff]; simp only [Bool.and_eq_true, decide_eq_true_iff, Bool.false_eq_true, false_iff, e1]; rw [e0] at h1; first | omega | exact ⟨fun h => ⟨⟨by omega, by omega⟩, h⟩, fun h => h.2⟩
  · skip
    refine GT_skip rfl rfl rfl rfl rfl (by decide) rfl rfl ?_
    refine GT_skip rfl rfl rfl rfl rfl (by decide) rfl rfl ?_
    refine GT_skip rfl rfl rfl rfl rfl (by decide) rfl rfl ?_
    refine GT_st rfl rfl rfl rfl (V_pick_f rfl rfl rfl) ?_
    refine GT_st rfl rfl rfl rfl (V_move rfl rfl) ?_
    refine GT_skip rfl rfl rfl rfl rfl (by decide) rfl rfl ?_
    refine GT_skip_ld rfl rfl rfl rfl rfl (by decide) rfl rfl rfl (GR_nil) ?_
    refine GT_skip rfl rfl rfl rfl rfl (by decide) rfl rfl ?_
    refine GT_st rfl rfl rfl rfl (V_pick_f rfl rfl rfl) ?_
    refine GT_st rfl rfl rfl rfl (V_assign rfl rfl) ?_
    refine GT_nil ?_
    refine GE_ret Tryd.func31 rfl (fun w hw => ⟨?_, hw.nil⟩)
    refine congrArg Value.bool ?_; unfold isNm; rw [Bool.eq_iff_iff]; simp only [Bool.and_eq_true, decide_eq_true_iff, Bool.false_eq_true, false_iff, e1]; rw [e0] at h1; first | omega | exact ⟨fun h => ⟨⟨by omega, by omega⟩, h⟩, fun h => h.2⟩
variable {A : Option Addr} {c : Nat}
theorem C_CheckSamples {s : List Sam} (h : RdL w 2 eSam A s) : Con0 Tryd.prog 27 [.slice A s.length c] w (I (sErr s)) := by
  refine Ret_of (vs := [_]) hm none' Tryd.func27 rfl Tryd.ntmps27 rfl ?_
  dsimp only [slotsOf]
  refine GE_seq ?_
  refine GE_plain (.st 0 .nil) rfl ?_
  refine GT_st rfl rfl rfl rfl (V_assign rfl rfl) ?_
  refine GT_nil ?_
  refine GE_seq ?_
  refine GE_seq ?_
  refine GE_plain (.st 0 (.st 1 (.st 2 .nil))) rfl ?_
  refine GT_st rfl rfl rfl rfl (V_move rfl rfl) ?_
  refine GT_st rfl rfl rfl rfl (V_len rfl Tryd.underlying22 rfl) ?_
  refine GT_st rfl rfl rfl rfl (V_gtr rfl rfl rfl) ?_
  refine GT_nil ?_
  first | refine GE_condNot rfl (fun h1 => ?_) (fun h1 => ?_) | refine GE_cond rfl (fun h1 => ?_) (fun h1 => ?_) | refine GE_condNotB rfl (fun h1 => ?_) (fun h1 => ?_) | refine GE_condB rfl (fun h1 => ?_) (fun h1 => ?_)
  · skip
    refine GE_seq ?_
    refine GE_slots (L' := []) trivial ?_
    refine GE_plain (.st 0 .nil) rfl ?_
    refine GT_st rfl rfl rfl rfl (V_assign rfl rfl) ?_
    refine GT_nil ?_
    refine GE_ret Tryd.func27 rfl (fun w hw => ⟨?_, hw.nil⟩)
    rw [sErr, if_pos (by omega)]
  · skip
    refine GE_skip ?_
    refine GE_seq ?_
    refine GE_seq ?_
    refine GE_slots (L' := [(0, _)]) ⟨rfl, trivial⟩ ?_
    refine GE_plain (.st 0 (.st 1 (.st 2 .nil))) rfl ?_
    refine GT_st rfl rfl rfl rfl (V_move rfl rfl) ?_
    refine GT_st rfl rfl rfl rfl (V_len rfl Tryd.underlying22 rfl) ?_
    refine GT_st rfl rfl rfl rfl (V_move rfl rfl) ?_
    refine GT_nil ?_
    refine GE_block ?_
    refine GE_to (GE_loop (ι := Nat) (fun k => s.length - k) (fun k => [(8, .slice A s.length c), (9, I s.length), (10, I k)]) (fun k => []) (fun k => k ≤ s.length ∧ ∀ i, i < k → Sam.ok (s.getD i default) = true) ?_ 0 ?_) ⟨rfl, rfl, rfl, trivial⟩ HS.nil
    · rintro k ⟨hk, hall⟩ ih
      refine GE_seq ?_
      refine GE_plain (.st 0 .nil) rfl ?_
      refine GT_st rfl rfl rfl rfl (V_lss rfl rfl rfl) ?_
      refine GT_nil ?_
      refine GE_seq ?_
      first | refine GE_condNot rfl (fun h2 => ?_) (fun h2 => ?_) | refine GE_cond rfl (fun h2 => ?_) (fun h2 => ?_) | refine GE_condNotB rfl (fun h2 => ?_) (fun h2 => ?_) | refine GE_condB rfl (fun h2 => ?_) (fun h2 => ?_)
      · have hkl : k < s.length := (by omega)
        refine GE_skip ?_
        refine GE_seq ?_
        refine GE_block ?_
        refine GE_seq ?_
        refine GE_plain (.st 0 (.st 1 (.ld 2 [] (.ld 3 [] .nil)))) rfl ?_
        refine GT_st rfl rfl rfl rfl (V_index rfl rfl rfl Tryd.underlying22 sz_45 (k := k) rfl hkl (h.isSome hkl)) ?_
        refine GT_st rfl rfl rfl rfl (V_loadN (vs := [_, _]) rfl rfl ag_45 sz_45 rfl (h.ats noM hkl)) ?_
        refine GT_alloc rfl rfl rfl rfl rfl zc_45 (fun _ => GR_nil) (fun b4 => ?_)
        refine GT_store (vs := [_, _]) (l' := [_, _]) rfl rfl rfl rfl rfl rfl rfl sz_45 rfl rfl (Nat.le_of_ble_eq_true rfl) rfl (GR_nil) ?_
        refine GT_nil ?_
        refine GE_seq ?_
        refine GE_plain (.st 0 (.ld 1 [] (.st 2 .nil))) rfl ?_
        refine GT_st rfl rfl rfl rfl (V_loadN (vs := [_, _]) rfl rfl ag_45 sz_45 rfl (CellsAt.item rfl)) ?_
        refine GT_call0 rfl rfl rfl rfl rfl rfl rfl rfl rn_39 (fun w hw => C_valid) (GR_nil) ?_
        first | refine GT_st rfl rfl rfl rfl (V_not rfl rfl) ?_ | refine GT_st rfl rfl rfl rfl (V_notB rfl rfl) ?_
        refine GT_nil ?_
        first | refine GE_condNot rfl (fun h3 => ?_) (fun h3 => ?_) | refine GE_cond rfl (fun h3 => ?_) (fun h3 => ?_) | refine GE_condNotB rfl (fun h3 => ?_) (fun h3 => ?_) | refine GE_condB rfl (fun h3 => ?_) (fun h3 => ?_)
        · skip
          refine GE_seq ?_
          refine GE_slots (L' := []) trivial ?_
          refine GE_plain (.st 0 .nil) rfl ?_
          refine GT_st rfl rfl rfl rfl (V_assign rfl rfl) ?_
          refine GT_nil ?_
          refine GE_ret Tryd.func27 rfl (fun w hw => ⟨?_, hw.nil⟩)
          rw [sErr, if_neg (by omega), if_neg (by rw [all_split hkl h3]; decide)]
        · skip
          refine GE_skip ?_
          refine GE_inBlock ?_
          refine GE_slots (L' := [(8, _), (9, _), (10, _)]) ⟨rfl, rfl, rfl, trivial⟩ ?_
          refine GE_plain (.st 0 (.ld 1 [] .nil)) rfl ?_
          refine GT_st rfl rfl rfl rfl (V_add rfl rfl rfl (wrap_i64 (by omega))) ?_
          refine GT_ldv rfl rfl rfl rfl rfl (V_move rfl rfl) (GR_nil) ?_
          refine GT_nil ?_
          exact GE_to (ih (k + 1) ⟨by omega, fun i hi => by rcases Nat.lt_or_ge i k with r | r; exact hall i r; rw [show i = k by omega]; exact h3⟩ (by omega)) ⟨rfl, rfl, rfl, trivial⟩ HS.nil
      · skip
        refine GE_exit rfl ?_
        refine GE_seq ?_
        refine GE_slots (L' := []) trivial ?_
        refine GE_plain (.st 0 .nil) rfl ?_
        refine GT_st rfl rfl rfl rfl (V_assign rfl rfl) ?_
        refine GT_nil ?_
        refine GE_ret Tryd.func27 rfl (fun w hw => ⟨?_, hw.nil⟩)
        rw [sErr, if_neg (by omega), if_pos (all_getD.2 fun i hi => hall i (by omega))]
    · exact ⟨Nat.zero_le _, fun i hi => absurd hi (Nat.not_lt_zero _)⟩
theorem C_CheckSamplesN {s : List Sam} {n : Nat} (hn : s.length = n) (h : RdL w 2 eSam A s) : Con0 Tryd.prog 27 [.slice A n c] w (I (sErr s)) := hn ▸ C_CheckSamples h
theorem C_checkTake {t : Tk} (h : RdL w 2 eSam t.A t.data) (hn : t.name.size ≤ maxLen) : Con0 Tryd.prog 14 [.agg #[.string t.name, .slice t.A t.data.length t.c]] w (I (tErr t)) := by
  have hq : tErr t = if sErr t.data = 6 then 6 else if isNm t.name = true ∧ t.data.length ≠ 0 then sErr t.data else 2 := by
    unfold tErr sErr
    by_cases h1 : 4096 < t.data.length
    · simp [h1]
    · by_cases h2 : t.data.all Sam.ok = true <;> by_cases h3 : isNm t.name = true <;> by_cases h4 : t.data.length = 0 <;> simp [h1, h2, h3, h4]
  refine Ret_of (vs := [_]) hm none' Tryd.func14 rfl Tryd.ntmps14 rfl ?_
  dsimp only [slotsOf]
  refine GE_seq ?_
  refine GE_plain (.ld 0 [] (.st 1 .nil)) rfl ?_
  refine GT_box (z := [_, _]) rfl rfl rfl rfl rfl rfl rfl (fun _ => GR_nil) (fun b1 => ?_)
  refine GT_st rfl rfl rfl rfl (V_assign rfl rfl) ?_
  refine GT_nil ?_
  refine GE_seq ?_
  refine GE_plain (.st 0 (.st 1 (.ld 2 [] (.st 3 .nil)))) rfl ?_
  first | refine GT_st rfl rfl rfl rfl (V_field rfl rfl fo_24_1) ?_ | refine GT_st rfl rfl rfl rfl (V_fieldA rfl rfl fo_24_1) ?_
  refine GT_st rfl rfl rfl rfl (V_load rfl rfl ag_22 (CellAt.item rfl)) ?_
  refine GT_call0 rfl rfl rfl rfl rfl rfl rfl rfl rn_27 (fun w hw => C_CheckSamples (h.sh hw)) (GR_nil) ?_
  refine GT_st rfl rfl rfl rfl (V_assign rfl rfl) ?_
  refine GT_nil ?_
  refine GE_seq ?_
  refine GE_seq ?_
  refine GE_slots (L' := [(1, _), (3, _)]) ⟨rfl, rfl, trivial⟩ ?_
  refine GE_plain (.st 0 (.st 1 (.st 2 (.st 3 (.st 4 (.ld 5 [] (.st 6 (.st 7 (.st 8 (.st 9 (.st 10 (.st 11 (.st 12 (.st 13 .nil)))))))))))))) rfl ?_
  refine GT_st rfl rfl rfl rfl (V_move rfl rfl) ?_
  refine GT_st rfl rfl rfl rfl (V_neq rfl rfl rfl) ?_
  refine GT_st rfl rfl rfl rfl (V_move rfl rfl) ?_
  first | refine GT_splitNot (d := 9) rfl (fun h1 => ?_) (fun h1 => ?_) | refine GT_split (d := 9) rfl (fun h1 => ?_) (fun h1 => ?_) | refine GT_splitNotB (d := 9) rfl (fun h1 => ?_) (fun h1 => ?_) | refine GT_splitB (d := 9) rfl (fun h1 => ?_) (fun h1 => ?_)
  · skip
    first | refine GT_st_g rfl rfl rfl rfl rfl rfl rfl (V_field rfl rfl fo_24_0) ?_ | refine GT_st_g rfl rfl rfl rfl rfl rfl rfl (V_fieldA rfl rfl fo_24_0) ?_
    refine GT_st_g rfl rfl rfl rfl rfl rfl rfl (V_load rfl rfl ag_9 (CellAt.item rfl)) ?_
    refine GT_call0_g rfl rfl rfl rfl rfl rfl rfl rfl rfl rfl rfl rn_31 (fun w hw => C_isName hn) (GR_nil) ?_
    first | refine GT_st_g rfl rfl rfl rfl rfl rfl rfl (V_not rfl rfl) ?_ | refine GT_st_g rfl rfl rfl rfl rfl rfl rfl (V_notB rfl rfl) ?_
    refine GT_st_g rfl rfl rfl rfl rfl rfl rfl (V_move rfl rfl) ?_
    first | refine GT_splitNot (d := 14) rfl (fun h2 => ?_) (fun h2 => ?_) | refine GT_split (d := 14) rfl (fun h2 => ?_) (fun h2 => ?_) | refine GT_splitNotB (d := 14) rfl (fun h2 => ?_) (fun h2 => ?_) | refine GT_splitB (d := 14) rfl (fun h2 => ?_) (fun h2 => ?_)
    · skip
      refine GT_skip rfl rfl rfl rfl rfl (by decide) rfl rfl ?_
      refine GT_skip rfl rfl rfl rfl rfl (by decide) rfl rfl ?_
      refine GT_skip rfl rfl rfl rfl rfl (by decide) rfl rfl ?_
      refine GT_skip rfl rfl rfl rfl rfl (by decide) rfl rfl ?_
      refine GT_st_g rfl rfl rfl rfl rfl rfl rfl (V_pick_t rfl rfl rfl) ?_
      refine GT_st rfl rfl rfl rfl (V_pick_t rfl rfl rfl) ?_
      refine GT_nil ?_
      refine GE_cond_t rfl ?_
      refine GE_slots (L' := []) trivial ?_
      refine GE_plain (.st 0 .nil) rfl ?_
      refine GT_st rfl rfl rfl rfl (V_assign rfl rfl) ?_
      refine GT_nil ?_
      refine GE_seq ?_
      refine GE_plain (.st 0 (.st 1 .nil)) rfl ?_
      refine GT_st rfl rfl rfl rfl (V_move rfl rfl) ?_
      refine GT_st rfl rfl rfl rfl (V_assign rfl rfl) ?_
      refine GT_nil ?_
      refine GE_ret Tryd.func14 rfl (fun w hw => ⟨?_, hw.nil⟩)
      refine congrArg I ?_; rw [hq]; simp_all
    · skip
      first | refine GT_st_g rfl rfl rfl rfl rfl rfl rfl (V_field rfl rfl fo_24_1) ?_ | refine GT_st_g rfl rfl rfl rfl rfl rfl rfl (V_fieldA rfl rfl fo_24_1) ?_
      refine GT_st_g rfl rfl rfl rfl rfl rfl rfl (V_load rfl rfl ag_22 (CellAt.item rfl)) ?_
      refine GT_st_g rfl rfl rfl rfl rfl rfl rfl (V_len rfl Tryd.underlying22 rfl) ?_
      refine GT_st_g rfl rfl rfl rfl rfl rfl rfl (V_eql rfl rfl rfl) ?_
      refine GT_st_g rfl rfl rfl rfl rfl rfl rfl (V_pick_f rfl rfl rfl) ?_
      refine GT_st rfl rfl rfl rfl (V_pick_t rfl rfl rfl) ?_
      refine GT_nil ?_
      first | refine GE_condNot rfl (fun h1 => ?_) (fun h1 => ?_) | refine GE_cond rfl (fun h1 => ?_) (fun h1 => ?_) | refine GE_condNotB rfl (fun h1 => ?_) (fun h1 => ?_) | refine GE_condB rfl (fun h1 => ?_) (fun h1 => ?_)
      · skip
        refine GE_slots (L' := []) trivial ?_
        refine GE_plain (.st 0 .nil) rfl ?_
        refine GT_st rfl rfl rfl rfl (V_assign rfl rfl) ?_
        refine GT_nil ?_
        refine GE_seq ?_
        refine GE_plain (.st 0 (.st 1 .nil)) rfl ?_
        refine GT_st rfl rfl rfl rfl (V_move rfl rfl) ?_
        refine GT_st rfl rfl rfl rfl (V_assign rfl rfl) ?_
        refine GT_nil ?_
        refine GE_ret Tryd.func14 rfl (fun w hw => ⟨?_, hw.nil⟩)
        refine congrArg I ?_; rw [hq]; simp_all
      · skip
        refine GE_skip ?_
        refine GE_seq ?_
        refine GE_slots (L' := [(3, _)]) ⟨rfl, trivial⟩ ?_
        refine GE_plain (.st 0 (.st 1 .nil)) rfl ?_
        refine GT_st rfl rfl rfl rfl (V_move rfl rfl) ?_
        refine GT_st rfl rfl rfl rfl (V_assign rfl rfl) ?_
        refine GT_nil ?_
        refine GE_ret Tryd.func14 rfl (fun w hw => ⟨?_, hw.nil⟩)
        refine congrArg I ?_; rw [hq]; simp_all
  · skip
    refine GT_skip rfl rfl rfl rfl rfl (by decide) rfl rfl ?_
    refine GT_skip rfl rfl rfl rfl rfl (by decide) rfl rfl ?_
    refine GT_skip_ld rfl rfl rfl rfl rfl (by decide) rfl rfl rfl (GR_nil) ?_
    refine GT_skip rfl rfl rfl rfl rfl (by decide) rfl rfl ?_
    refine GT_skip rfl rfl rfl rfl rfl (by decide) rfl rfl ?_
    refine GT_skip rfl rfl rfl rfl rfl (by decide) rfl rfl ?_
    refine GT_skip rfl rfl rfl rfl rfl (by decide) rfl rfl ?_
    refine GT_skip rfl rfl rfl rfl rfl (by decide) rfl rfl ?_
    refine GT_skip rfl rfl rfl rfl rfl (by decide) rfl rfl ?_
    refine GT_skip rfl rfl rfl rfl rfl (by decide) rfl rfl ?_
    refine GT_st rfl rfl rfl rfl (V_pick_f rfl rfl rfl) ?_
    refine GT_nil ?_
    refine GE_cond_f rfl ?_
    refine GE_skip ?_
    refine GE_seq ?_
    refine GE_slots (L' := [(3, _)]) ⟨rfl, trivial⟩ ?_
    refine GE_plain (.st 0 (.st 1 .nil)) rfl ?_
    refine GT_st rfl rfl rfl rfl (V_move rfl rfl) ?_
    refine GT_st rfl rfl rfl rfl (V_assign rfl rfl) ?_
    refine GT_nil ?_
    refine GE_ret Tryd.func14 rfl (fun w hw => ⟨?_, hw.nil⟩)
    refine congrArg I ?_; rw [hq]; simp_all
theorem lErr_six {l : List Tk} {k : Nat} (hk : k < l.length) (h : tErr (l.getD k default) = 6) : lErr l = 6 := by
  unfold lErr
  split
  · rfl
  · rw [if_pos (by rw [List.any_eq_true]; exact ⟨_, getD_mem hk, decide_eq_true h⟩)]
theorem map_take_succ {l : List Tk} {k : Nat} (hk : k < l.length) : (l.take (k + 1)).map Tk.name = (l.take k).map Tk.name ++ [(l.getD k default).name] := by
  rw [List.take_add_one, List.getElem?_eq_getElem hk, List.map_append]; simp [List.getD, hk]
theorem lErr_fin {l : List Tk} {wo : Int} {ks : List KV} (h1 : 1 ≤ l.length ∧ l.length ≤ 16) (h6 : ∀ i, i < l.length → tErr (l.getD i default) ≠ 6)
    (hwo : (wo = 0 ∧ ∀ i, i < l.length → tErr (l.getD i default) = 0) ∨ (wo = 2 ∧ ∃ i, i < l.length ∧ tErr (l.getD i default) ≠ 0)) (hks : ks.map (·.1) = uniq ((l.take l.length).map Tk.name)) :
    lErr l = if wo = 0 then (if (ks.length : Int) < l.length then 12 else 0) else wo := by
  have n6 : ¬ l.any (fun t => decide (tErr t = 6)) = true := by
    rw [List.any_eq_true]; rintro ⟨t, ht, e⟩
    obtain ⟨i, hi, rfl⟩ := List.getElem_of_mem ht
    have := h6 i hi
    simp [List.getD, hi] at this e; exact this e
  have hl := uniq_len (l.map Tk.name)
  rw [List.take_length] at hks
  rw [← hks, List.length_map, List.length_map] at hl
  unfold lErr
  rw [if_neg (by omega), if_neg n6]
  rcases hwo with ⟨rfl, h0⟩ | ⟨rfl, i, hi, h0⟩
  · have n2 : ¬ l.any (fun t => decide (tErr t ≠ 0)) = true := by
      rw [List.any_eq_true]; rintro ⟨t, ht, e⟩
      obtain ⟨i, hi, rfl⟩ := List.getElem_of_mem ht
      have := h0 i hi
      simp [List.getD, hi] at this e; exact e this
    rw [if_neg n2, if_pos rfl]
    by_cases hq : (l.map Tk.name).Nodup
    · rw [if_pos hq, if_neg]; have := hl.2.2 hq; omega
    · rw [if_neg hq, if_pos]
      have : ks.length ≠ l.length := fun e => hq (hl.2.1 e)
      omega
  · rw [if_pos, if_neg (by omega)]
    rw [List.any_eq_true]
    exact ⟨_, getD_mem hi, decide_eq_true h0⟩
set_option maxRecDepth 10000 in
theorem C_CheckTakes {l : List Tk} (h : Tks w A l) : Con0 Tryd.prog 35 [.slice A l.length c] w (I (lErr l)) := by
  refine Ret_of (vs := [_]) hm none' Tryd.func35 rfl Tryd.ntmps35 rfl ?_
  dsimp only [slotsOf]
  refine GE_seq ?_
  refine GE_plain (.st 0 .nil) rfl ?_
  refine GT_st rfl rfl rfl rfl (V_assign rfl rfl) ?_
  refine GT_nil ?_
  refine GE_seq ?_
  refine GE_seq ?_
  refine GE_plain (.st 0 (.st 1 (.st 2 (.st 3 (.st 4 (.st 5 (.st 6 (.st 7 .nil)))))))) rfl ?_
  refine GT_st rfl rfl rfl rfl (V_move rfl rfl) ?_
  refine GT_st rfl rfl rfl rfl (V_len rfl Tryd.underlying27 rfl) ?_
  refine GT_st rfl rfl rfl rfl (V_lss rfl rfl rfl) ?_
  refine GT_st rfl rfl rfl rfl (V_move rfl rfl) ?_
  first | refine GT_splitNot (d := 11) rfl (fun h1 => ?_) (fun h1 => ?_) | refine GT_split (d := 11) rfl (fun h1 => ?_) (fun h1 => ?_) | refine GT_splitNotB (d := 11) rfl (fun h1 => ?_) (fun h1 => ?_) | refine GT_splitB (d := 11) rfl (fun h1 => ?_) (fun h1 => ?_)
  · skip
    refine GT_skip rfl rfl rfl rfl rfl (by decide) rfl rfl ?_
    refine GT_skip rfl rfl rfl rfl rfl (by decide) rfl rfl ?_
    refine GT_skip rfl rfl rfl rfl rfl (by decide) rfl rfl ?_
    refine GT_st rfl rfl rfl rfl (V_pick_t rfl rfl rfl) ?_
    refine GT_nil ?_
    refine GE_cond_t rfl ?_
    refine GE_seq ?_
    refine GE_slots (L' := []) trivial ?_
    refine GE_plain (.st 0 .nil) rfl ?_
    refine GT_st rfl rfl rfl rfl (V_assign rfl rfl) ?_
    refine GT_nil ?_
    refine GE_ret Tryd.func35 rfl (fun w hw => ⟨?_, hw.nil⟩)
    refine congrArg I ?_; first | (rw [hfin]; simp_all; done) | (rw [lErr, if_pos (by omega)])
  · skip
    refine GT_st_g rfl rfl rfl rfl rfl rfl rfl (V_move rfl rfl) ?_
    refine GT_st_g rfl rfl rfl rfl rfl rfl rfl (V_len rfl Tryd.underlying27 rfl) ?_
    refine GT_st_g rfl rfl rfl rfl rfl rfl rfl (V_gtr rfl rfl rfl) ?_
    refine GT_st rfl rfl rfl rfl (V_pick_f rfl rfl rfl) ?_
    refine GT_nil ?_
    first | refine GE_condNot rfl (fun h2 => ?_) (fun h2 => ?_) | refine GE_cond rfl (fun h2 => ?_) (fun h2 => ?_) | refine GE_condNotB rfl (fun h2 => ?_) (fun h2 => ?_) | refine GE_condB rfl (fun h2 => ?_) (fun h2 => ?_)
    · skip
      refine GE_seq ?_
      refine GE_slots (L' := []) trivial ?_
      refine GE_plain (.st 0 .nil) rfl ?_
      refine GT_st rfl rfl rfl rfl (V_assign rfl rfl) ?_
      refine GT_nil ?_
      refine GE_ret Tryd.func35 rfl (fun w hw => ⟨?_, hw.nil⟩)
      refine congrArg I ?_; rw [lErr, if_pos (by omega)]
    · skip
      refine GE_skip ?_
      refine GE_seq ?_
      refine GE_slots (L' := [(0, _)]) ⟨rfl, trivial⟩ ?_
      refine GE_plain (.st 0 .nil) rfl ?_
      refine GT_st rfl rfl rfl rfl (V_assign rfl rfl) ?_
      refine GT_nil ?_
      refine GE_seq ?_
      refine GE_plain (.ld 0 [] (.st 1 .nil)) rfl ?_
      refine GT_makeMap rfl rfl rfl rfl rfl (fun _ => GR_nil) (fun b16 => ?_)
      refine GT_st rfl rfl rfl rfl (V_assign rfl rfl) ?_
      refine GT_nil ?_
      refine GE_seq ?_
      refine GE_seq ?_
      refine GE_plain (.st 0 (.st 1 (.st 2 .nil))) rfl ?_
      refine GT_st rfl rfl rfl rfl (V_move rfl rfl) ?_
      refine GT_st rfl rfl rfl rfl (V_len rfl Tryd.underlying27 rfl) ?_
      refine GT_st rfl rfl rfl rfl (V_move rfl rfl) ?_
      refine GT_nil ?_
      refine GE_block ?_
      refine GE_to (GE_loop (ι := Nat × Int × List KV) (fun x => l.length - x.1) (fun x => [(0, .slice A l.length c), (3, I x.2.1), (4, .map (some b16)), (17, .slice A l.length c), (18, I l.length), (19, I x.1)]) (fun x => [(b16, mobj x.2.2)]) (fun x => x.1 ≤ l.length ∧ (∀ i, i < x.1 → tErr (l.getD i default) ≠ 6) ∧ ((x.2.1 = 0 ∧ ∀ i, i < x.1 → tErr (l.getD i default) = 0) ∨ (x.2.1 = 2 ∧ ∃ i, i < x.1 ∧ tErr (l.getD i default) ≠ 0)) ∧ x.2.2.map (·.1) = uniq ((l.take x.1).map Tk.name) ∧ ∀ e ∈ x.2.2, 0 ≤ e.2 ∧ e.2 ≤ x.1) ?_ (0, 0, []) ?_) ⟨rfl, rfl, rfl, rfl, rfl, rfl, trivial⟩ (HS.cons rfl HS.nil)
      · rintro ⟨k, wo, ks⟩ ⟨hk, h6, hwo, hks, hkb⟩ ih; dsimp only at hk h6 hwo hks hkb ih ⊢
        refine GE_seq ?_
        refine GE_plain (.st 0 .nil) rfl ?_
        refine GT_st rfl rfl rfl rfl (V_lss rfl rfl rfl) ?_
        refine GT_nil ?_
        refine GE_seq ?_
        first | refine GE_condNot rfl (fun h3 => ?_) (fun h3 => ?_) | refine GE_cond rfl (fun h3 => ?_) (fun h3 => ?_) | refine GE_condNotB rfl (fun h3 => ?_) (fun h3 => ?_) | refine GE_condB rfl (fun h3 => ?_) (fun h3 => ?_)
        · have hkl : k < l.length := (by omega); have ht := h.2 _ (getD_mem hkl); have hmg := mget_bd hkb (Int.natCast_nonneg k) (k := (l.getD k default).name)
          refine GE_skip ?_
          refine GE_seq ?_
          refine GE_block ?_
          refine GE_seq ?_
          refine GE_plain (.st 0 (.st 1 (.ld 2 [] (.ld 3 [] .nil)))) rfl ?_
          refine GT_st rfl rfl rfl rfl (V_index rfl rfl rfl Tryd.underlying27 sz_24 (k := k) rfl hkl (h.1.isSome hkl)) ?_
          refine GT_st rfl rfl rfl rfl (V_loadN (vs := [_, _]) rfl rfl ag_24 sz_24 rfl (h.1.ats noM hkl)) ?_
          refine GT_alloc rfl rfl rfl rfl rfl zc_24 (fun _ => GR_nil) (fun b6 => ?_)
          refine GT_store (vs := [_, _]) (l' := [_, _]) rfl rfl rfl rfl rfl rfl rfl sz_24 rfl rfl (Nat.le_of_ble_eq_true rfl) rfl (GR_nil) ?_
          refine GT_nil ?_
          refine GE_seq ?_
          refine GE_seq ?_
          refine GE_plain (.st 0 (.ld 1 [] (.st 2 .nil))) rfl ?_
          refine GT_st rfl rfl rfl rfl (V_loadN (vs := [_, _]) rfl rfl ag_24 sz_24 rfl (CellsAt.item rfl)) ?_
          refine GT_call0 rfl rfl rfl rfl rfl rfl rfl rfl rn_14 (fun w hw => C_checkTake (t := l.getD k default) (ht.1.sh hw) ht.2.1) (GR_nil) ?_
          refine GT_st rfl rfl rfl rfl (V_assign rfl rfl) ?_
          refine GT_nil ?_
          refine GE_block ?_
          refine GE_seq ?_
          refine GE_slots (L' := [(0, _), (3, _), (4, _), (6, _), (7, _), (17, _), (18, _), (19, _)]) ⟨rfl, rfl, rfl, rfl, rfl, rfl, rfl, rfl, trivial⟩ ?_
          refine GE_plain (.st 0 (.st 1 (.st 2 .nil))) rfl ?_
          refine GT_st rfl rfl rfl rfl (V_move rfl rfl) ?_
          refine GT_st rfl rfl rfl rfl (V_eql rfl rfl rfl) ?_
          refine GT_st rfl rfl rfl rfl (V_assign rfl rfl) ?_
          refine GT_nil ?_
          first | refine GE_condNot rfl (fun h4 => ?_) (fun h4 => ?_) | refine GE_cond rfl (fun h4 => ?_) (fun h4 => ?_) | refine GE_condNotB rfl (fun h4 => ?_) (fun h4 => ?_) | refine GE_condB rfl (fun h4 => ?_) (fun h4 => ?_)
          · skip
            refine GE_seq ?_
            refine GE_slots (L' := [(7, _)]) ⟨rfl, trivial⟩ ?_
            refine GE_plain (.st 0 (.st 1 .nil)) rfl ?_
            refine GT_st rfl rfl rfl rfl (V_move rfl rfl) ?_
            refine GT_st rfl rfl rfl rfl (V_assign rfl rfl) ?_
            refine GT_nil ?_
            refine GE_ret Tryd.func35 rfl (fun w hw => ⟨?_, hw.nil⟩)
            rw [lErr_six hkl h4]; exact congrArg I h4
          · skip
            refine GE_seq ?_
            refine GE_plain (.st 0 (.st 1 (.st 2 .nil))) rfl ?_
            refine GT_st rfl rfl rfl rfl (V_move rfl rfl) ?_
            refine GT_st rfl rfl rfl rfl (V_neq rfl rfl rfl) ?_
            refine GT_st rfl rfl rfl rfl (V_assign rfl rfl) ?_
            refine GT_nil ?_
            first | refine GE_condNot rfl (fun h5 => ?_) (fun h5 => ?_) | refine GE_cond rfl (fun h5 => ?_) (fun h5 => ?_) | refine GE_condNotB rfl (fun h5 => ?_) (fun h5 => ?_) | refine GE_condB rfl (fun h5 => ?_) (fun h5 => ?_)
            · skip
              refine GE_slots (L' := [(0, _), (4, _), (6, _), (7, _), (17, _), (18, _), (19, _)]) ⟨rfl, rfl, rfl, rfl, rfl, rfl, rfl, trivial⟩ ?_
              refine GE_plain (.st 0 (.st 1 .nil)) rfl ?_
              refine GT_st rfl rfl rfl rfl (V_move rfl rfl) ?_
              refine GT_st rfl rfl rfl rfl (V_assign rfl rfl) ?_
              refine GT_nil ?_
              refine GE_inBlock ?_
              refine GE_plain (.st 0 (.st 1 (.st 2 (.st 3 (.st 4 (.ld 5 [] .nil)))))) rfl ?_
              refine GT_st rfl rfl rfl rfl (V_move rfl rfl) ?_
              first | refine GT_st rfl rfl rfl rfl (V_field rfl rfl fo_24_0) ?_ | refine GT_st rfl rfl rfl rfl (V_fieldA rfl rfl fo_24_0) ?_
              refine GT_st rfl rfl rfl rfl (V_load rfl rfl ag_9 (CellAt.item rfl)) ?_
              refine GT_st rfl rfl rfl rfl (V_lookup rfl rfl rfl Tryd.underlying91 Tryd.underlying9 zv_3) ?_
              refine GT_st rfl rfl rfl rfl (V_add rfl rfl rfl (wrap_i64 (by omega))) ?_
              refine GT_mapUpdate rfl rfl rfl rfl rfl rfl rfl Tryd.underlying91 Tryd.underlying9 (GR_nil) ?_
              refine GT_nil ?_
              refine GE_inBlock ?_
              refine GE_slots (L' := [(0, _), (3, _), (4, _), (17, _), (18, _), (19, _)]) ⟨rfl, rfl, rfl, rfl, rfl, rfl, trivial⟩ ?_
              refine GE_plain (.st 0 (.ld 1 [] .nil)) rfl ?_
              refine GT_st rfl rfl rfl rfl (V_add rfl rfl rfl (wrap_i64 (by omega))) ?_
              refine GT_ldv rfl rfl rfl rfl rfl (V_move rfl rfl) (GR_nil) ?_
              refine GT_nil ?_
              first
                | exact GE_to (ih (k + 1, tErr (l.getD k default), mput ks (l.getD k default).name (mget ks (l.getD k default).name + 1)) ⟨by dsimp only; omega, fun i hi => by rcases Nat.lt_or_ge i k with r | r; exact h6 i r; rw [show i = k by dsimp only at hi; omega]; exact h4, .inr ⟨by have := tErr_cases (l.getD k default); dsimp only; omega, k, by dsimp only; omega, h5⟩, by dsimp only; rw [mput_keys, hks, map_take_succ hkl, uniq_snoc], by dsimp only; exact mput_bd (fun e he => by have := hkb e he; omega) (by omega)⟩ (by dsimp only; omega)) ⟨rfl, rfl, rfl, rfl, rfl, rfl, trivial⟩ (HS.cons rfl HS.nil)
                | exact GE_to (ih (k + 1, wo, mput ks (l.getD k default).name (mget ks (l.getD k default).name + 1)) ⟨by dsimp only; omega, fun i hi => by rcases Nat.lt_or_ge i k with r | r; exact h6 i r; rw [show i = k by dsimp only at hi; omega]; exact h4, by rcases hwo with ⟨e, hz⟩ | ⟨e, i, hi, hn⟩; exact .inl ⟨e, fun i hi => by rcases Nat.lt_or_ge i k with r | r; exact hz i r; rw [show i = k by dsimp only at hi; omega]; exact h5⟩; exact .inr ⟨e, i, by dsimp only; omega, hn⟩, by dsimp only; rw [mput_keys, hks, map_take_succ hkl, uniq_snoc], by dsimp only; exact mput_bd (fun e he => by have := hkb e he; omega) (by omega)⟩ (by dsimp only; omega)) ⟨rfl, rfl, rfl, rfl, rfl, rfl, trivial⟩ (HS.cons rfl HS.nil)
            · skip
              refine GE_skip ?_
              refine GE_inBlock ?_
              refine GE_slots (L' := [(0, _), (3, _), (4, _), (6, _), (17, _), (18, _), (19, _)]) ⟨rfl, rfl, rfl, rfl, rfl, rfl, rfl, trivial⟩ ?_
              refine GE_plain (.st 0 (.st 1 (.st 2 (.st 3 (.st 4 (.ld 5 [] .nil)))))) rfl ?_
              refine GT_st rfl rfl rfl rfl (V_move rfl rfl) ?_
              first | refine GT_st rfl rfl rfl rfl (V_field rfl rfl fo_24_0) ?_ | refine GT_st rfl rfl rfl rfl (V_fieldA rfl rfl fo_24_0) ?_
              refine GT_st rfl rfl rfl rfl (V_load rfl rfl ag_9 (CellAt.item rfl)) ?_
              refine GT_st rfl rfl rfl rfl (V_lookup rfl rfl rfl Tryd.underlying91 Tryd.underlying9 zv_3) ?_
              refine GT_st rfl rfl rfl rfl (V_add rfl rfl rfl (wrap_i64 (by omega))) ?_
              refine GT_mapUpdate rfl rfl rfl rfl rfl rfl rfl Tryd.underlying91 Tryd.underlying9 (GR_nil) ?_
              refine GT_nil ?_
              refine GE_inBlock ?_
              refine GE_slots (L' := [(0, _), (3, _), (4, _), (17, _), (18, _), (19, _)]) ⟨rfl, rfl, rfl, rfl, rfl, rfl, trivial⟩ ?_
              refine GE_plain (.st 0 (.ld 1 [] .nil)) rfl ?_
              refine GT_st rfl rfl rfl rfl (V_add rfl rfl rfl (wrap_i64 (by omega))) ?_
              refine GT_ldv rfl rfl rfl rfl rfl (V_move rfl rfl) (GR_nil) ?_
              refine GT_nil ?_
              first
                | exact GE_to (ih (k + 1, tErr (l.getD k default), mput ks (l.getD k default).name (mget ks (l.getD k default).name + 1)) ⟨by dsimp only; omega, fun i hi => by rcases Nat.lt_or_ge i k with r | r; exact h6 i r; rw [show i = k by dsimp only at hi; omega]; exact h4, .inr ⟨by have := tErr_cases (l.getD k default); dsimp only; omega, k, by dsimp only; omega, h5⟩, by dsimp only; rw [mput_keys, hks, map_take_succ hkl, uniq_snoc], by dsimp only; exact mput_bd (fun e he => by have := hkb e he; omega) (by omega)⟩ (by dsimp only; omega)) ⟨rfl, rfl, rfl, rfl, rfl, rfl, trivial⟩ (HS.cons rfl HS.nil)
                | exact GE_to (ih (k + 1, wo, mput ks (l.getD k default).name (mget ks (l.getD k default).name + 1)) ⟨by dsimp only; omega, fun i hi => by rcases Nat.lt_or_ge i k with r | r; exact h6 i r; rw [show i = k by dsimp only at hi; omega]; exact h4, by rcases hwo with ⟨e, hz⟩ | ⟨e, i, hi, hn⟩; exact .inl ⟨e, fun i hi => by rcases Nat.lt_or_ge i k with r | r; exact hz i r; rw [show i = k by dsimp only at hi; omega]; exact h5⟩; exact .inr ⟨e, i, by dsimp only; omega, hn⟩, by dsimp only; rw [mput_keys, hks, map_take_succ hkl, uniq_snoc], by dsimp only; exact mput_bd (fun e he => by have := hkb e he; omega) (by omega)⟩ (by dsimp only; omega)) ⟨rfl, rfl, rfl, rfl, rfl, rfl, trivial⟩ (HS.cons rfl HS.nil)
        · obtain rfl : k = l.length := (by omega); have hfin := lErr_fin (by omega) h6 hwo hks
          refine GE_exit rfl ?_
          refine GE_seq ?_
          refine GE_seq ?_
          refine GE_slots (L' := [(0, _), (3, _), (4, _)]) ⟨rfl, rfl, rfl, trivial⟩ ?_
          refine GE_plain (.st 0 (.st 1 (.st 2 (.st 3 (.st 4 (.st 5 (.st 6 (.st 7 (.st 8 .nil))))))))) rfl ?_
          refine GT_st rfl rfl rfl rfl (V_move rfl rfl) ?_
          refine GT_st rfl rfl rfl rfl (V_eql rfl rfl rfl) ?_
          refine GT_st rfl rfl rfl rfl (V_move rfl rfl) ?_
          first | refine GT_splitNot (d := 41) rfl (fun h6 => ?_) (fun h6 => ?_) | refine GT_split (d := 41) rfl (fun h6 => ?_) (fun h6 => ?_) | refine GT_splitNotB (d := 41) rfl (fun h6 => ?_) (fun h6 => ?_) | refine GT_splitB (d := 41) rfl (fun h6 => ?_) (fun h6 => ?_)
          · skip
            refine GT_st_g rfl rfl rfl rfl rfl rfl rfl (V_move rfl rfl) ?_
            refine GT_st_g rfl rfl rfl rfl rfl rfl rfl (V_lenMap rfl rfl Tryd.underlying91) ?_
            refine GT_st_g rfl rfl rfl rfl rfl rfl rfl (V_move rfl rfl) ?_
            refine GT_st_g rfl rfl rfl rfl rfl rfl rfl (V_len rfl Tryd.underlying27 rfl) ?_
            refine GT_st_g rfl rfl rfl rfl rfl rfl rfl (V_lss rfl rfl rfl) ?_
            refine GT_st rfl rfl rfl rfl (V_pick_t rfl rfl rfl) ?_
            refine GT_nil ?_
            first | refine GE_condNot rfl (fun h7 => ?_) (fun h7 => ?_) | refine GE_cond rfl (fun h7 => ?_) (fun h7 => ?_) | refine GE_condNotB rfl (fun h7 => ?_) (fun h7 => ?_) | refine GE_condB rfl (fun h7 => ?_) (fun h7 => ?_)
            · skip
              refine GE_slots (L' := []) trivial ?_
              refine GE_plain (.st 0 .nil) rfl ?_
              refine GT_st rfl rfl rfl rfl (V_assign rfl rfl) ?_
              refine GT_nil ?_
              refine GE_seq ?_
              refine GE_plain (.st 0 (.st 1 .nil)) rfl ?_
              refine GT_st rfl rfl rfl rfl (V_move rfl rfl) ?_
              refine GT_st rfl rfl rfl rfl (V_assign rfl rfl) ?_
              refine GT_nil ?_
              refine GE_ret Tryd.func35 rfl (fun w hw => ⟨?_, hw.nil⟩)
              refine congrArg I ?_; first | (rw [hfin]; simp_all; done) | (rw [lErr, if_pos (by omega)])
            · skip
              refine GE_skip ?_
              refine GE_seq ?_
              refine GE_slots (L' := [(3, _)]) ⟨rfl, trivial⟩ ?_
              refine GE_plain (.st 0 (.st 1 .nil)) rfl ?_
              refine GT_st rfl rfl rfl rfl (V_move rfl rfl) ?_
              refine GT_st rfl rfl rfl rfl (V_assign rfl rfl) ?_
              refine GT_nil ?_
              refine GE_ret Tryd.func35 rfl (fun w hw => ⟨?_, hw.nil⟩)
              refine congrArg I ?_; first | (rw [hfin]; simp_all; done) | (rw [lErr, if_pos (by omega)])
          · skip
            refine GT_skip rfl rfl rfl rfl rfl (by decide) rfl rfl ?_
            refine GT_skip rfl rfl rfl rfl rfl (by decide) rfl rfl ?_
            refine GT_skip rfl rfl rfl rfl rfl (by decide) rfl rfl ?_
            refine GT_skip rfl rfl rfl rfl rfl (by decide) rfl rfl ?_
            refine GT_skip rfl rfl rfl rfl rfl (by decide) rfl rfl ?_
            refine GT_st rfl rfl rfl rfl (V_pick_f rfl rfl rfl) ?_
            refine GT_nil ?_
            refine GE_cond_f rfl ?_
            refine GE_skip ?_
            refine GE_seq ?_
            refine GE_slots (L' := [(3, _)]) ⟨rfl, trivial⟩ ?_
            refine GE_plain (.st 0 (.st 1 .nil)) rfl ?_
            refine GT_st rfl rfl rfl rfl (V_move rfl rfl) ?_
            refine GT_st rfl rfl rfl rfl (V_assign rfl rfl) ?_
            refine GT_nil ?_
            refine GE_ret Tryd.func35 rfl (fun w hw => ⟨?_, hw.nil⟩)
            refine congrArg I ?_; first | (rw [hfin]; simp_all; done) | (rw [lErr, if_pos (by omega)])
      · exact ⟨Nat.zero_le _, fun i hi => absurd hi (Nat.not_lt_zero _), .inl ⟨rfl, fun i hi => absurd hi (Nat.not_lt_zero _)⟩, rfl, fun e he => by cases he⟩
end
end Go.Proofs.YtdcjgjopmicidaaDoor
