/- Texts of this proof, one behind the other: TaL, Ta1, Ta2, Ta3, Ta4, Ta5, Ta6, Fb. -/
import Derived.Test.YtdcjgjopmicidaaGreatDoorProg
import Derived.Shelf.Strings.SlTrimAscii
import Derived.Ground.NamesProg
import Derived.Test.YtdcjgjopmicidaaGreatDoorMt6
import Derived.Test.YtdcjgjopmicidaaGreatDoorMt10
import Derived.Test.YtdcjgjopmicidaaGreatDoorMt12
/-
  DERIVED: THE SHELF's CONTRACTS AT THIS DUMP, IN PLAIN WORDS (tools/lay-plain.mjs out of 'YtdcjgjopmicidaaGreatDoorShelf.lean', which tools/lay-shelf.mjs wrote): THE SAME DECLARATIONS UNDER THE SAME NAMES: 'import', 'namespace', 'open', 'def', 'theorem' AND NOTHING ELSE: no command of the shelf's: FOR A HAND-IN. Each laying: the table of numbers ('.._ren') and one theorem, a field a fact of the dump's own or the kernel's comparison; each contract: ONE APPLICATION.
-/
namespace Go.Proofs
open Go.Shelf
def Tryz.lays160_ren : Go.Shelf.Ren := ⟨fun | 160 => 83 | 232 => 100 | 231 => 99 | 227 => 101 | 234 => 103 | 233 => 102 | 236 => 105 | 235 => 104 | 228 => 116 | 271 => 118 | 151 => 117 | 197 => 91 | 120 => 121 | 152 => 120 | 260 => 108 | 137 => 52 | 119 => 122 | 224 => 110 | 225 => 109 | 217 => 71 | 266 => 89 | n => n, fun | 9 => 9 | 4 => 4 | 3 => 3 | 5 => 5 | 117 => 166 | 116 => 165 | 0 => 0 | 124 => 169 | 21 => 21 | 105 => 155 | 46 => 93 | 119 => 179 | 139 => 182 | 138 => 181 | n => n, fun | 3 => 6 | 4 => 7 | n => n⟩
theorem Tryz.lays160 : Go.Proofs.Lays.n160 Tryz.prog Tryz.lays160_ren := {
  mixed := by kernel_rfl
  f119 := Tryz.func122.trans (congrArg some (by kernel_rfl))
  f120 := Tryz.func121.trans (congrArg some (by kernel_rfl))
  f137 := Tryz.func52.trans (congrArg some (by kernel_rfl))
  f151 := Tryz.func117.trans (congrArg some (by kernel_rfl))
  f152 := Tryz.func120.trans (congrArg some (by kernel_rfl))
  f160 := Tryz.func83.trans (congrArg some (by kernel_rfl))
  f197 := Tryz.func91.trans (congrArg some (by kernel_rfl))
  f217 := Tryz.func71.trans (congrArg some (by kernel_rfl))
  f224 := Tryz.func110.trans (congrArg some (by kernel_rfl))
  f225 := Tryz.func109.trans (congrArg some (by kernel_rfl))
  f227 := Tryz.func101.trans (congrArg some (by kernel_rfl))
  f228 := Tryz.func116.trans (congrArg some (by kernel_rfl))
  f231 := Tryz.func99.trans (congrArg some (by kernel_rfl))
  f232 := Tryz.func100.trans (congrArg some (by kernel_rfl))
  f233 := Tryz.func102.trans (congrArg some (by kernel_rfl))
  f234 := Tryz.func103.trans (congrArg some (by kernel_rfl))
  f235 := Tryz.func104.trans (congrArg some (by kernel_rfl))
  f236 := Tryz.func105.trans (congrArg some (by kernel_rfl))
  f260 := Tryz.func108.trans (congrArg some (by kernel_rfl))
  f266 := Tryz.func89.trans (congrArg some (by kernel_rfl))
  f271 := Tryz.func118.trans (congrArg some (by kernel_rfl))
  t0 := Tryz.underlying0
  a0 := Tryz.isAgg0
  z0 := Tryz.sizeOf0
  v0 := Tryz.zeroValue0
  t3 := Tryz.underlying3
  a3 := Tryz.isAgg3
  z3 := Tryz.sizeOf3
  v3 := Tryz.zeroValue3
  t4 := Tryz.underlying4
  a4 := Tryz.isAgg4
  z4 := Tryz.sizeOf4
  v4 := Tryz.zeroValue4
  t5 := Tryz.underlying5
  a5 := Tryz.isAgg5
  z5 := Tryz.sizeOf5
  v5 := Tryz.zeroValue5
  t9 := Tryz.underlying9
  a9 := Tryz.isAgg9
  z9 := Tryz.sizeOf9
  v9 := Tryz.zeroValue9
  t21 := Tryz.underlying21
  a21 := Tryz.isAgg21
  z21 := Tryz.sizeOf21
  v21 := Tryz.zeroValue21
  t46 := Tryz.underlying93
  a46 := Tryz.isAgg93
  z46 := Tryz.sizeOf93
  v46 := Tryz.zeroValue93
  t105 := Tryz.underlying155
  a105 := Tryz.isAgg155
  z105 := Tryz.sizeOf155
  v105 := Tryz.zeroValue155
  t116 := Tryz.underlying165
  a116 := Tryz.isAgg165
  z116 := Tryz.sizeOf165
  t117 := Tryz.underlying166
  a117 := Tryz.isAgg166
  z117 := Tryz.sizeOf166
  v117 := Tryz.zeroValue166
  t119 := Tryz.underlying179
  a119 := Tryz.isAgg179
  z119 := Tryz.sizeOf179
  t124 := Tryz.underlying169
  a124 := Tryz.isAgg169
  z124 := Tryz.sizeOf169
  v124 := Tryz.zeroValue169
  t138 := Tryz.underlying181
  a138 := Tryz.isAgg181
  z138 := Tryz.sizeOf181
  v138 := Tryz.zeroValue181
  t139 := Tryz.underlying182
  a139 := Tryz.isAgg182
  z139 := Tryz.sizeOf182
  v139 := Tryz.zeroValue182
  g3 := by kernel_rfl
  g4 := by kernel_rfl }
end Go.Proofs
/- Samples, names, takes: which are valid, walked. -/
namespace Go.Proofs.YtdcjgjopmicidaaGreatDoor
open Go.Sx Go.Proofs Go.RowKit

def cutB : List UInt8 := [97, 98, 99, 100, 101, 102, 103, 104, 105, 106, 107, 108, 109, 110, 111, 112, 113, 114, 115, 116, 117, 118, 119, 120, 121, 122, 48, 49, 50, 51, 52, 53, 54, 55, 56, 57]
theorem nmB_cut : ∀ b : UInt8, cutB.contains b = nmB b := by
  have h : ∀ n : Fin 256, cutB.contains (UInt8.ofNat n.val) = nmB (UInt8.ofNat n.val) := by decide +kernel
  intro b
  have := h ⟨b.toNat, b.toNat_lt⟩
  simpa using this
theorem dropWhile_nil {α : Type} {f : α → Bool} {l : List α} : l.dropWhile f = [] ↔ l.all f = true := by
  induction l with
  | nil => simp
  | cons x l ih =>
    rw [List.dropWhile_cons, List.all_cons]
    by_cases h : f x = true
    · rw [if_pos h, h, Bool.true_and]; exact ih
    · rw [if_neg h]; simp [h]
theorem trimS_nil {l cs : List UInt8} : Go.Lib.trimS l cs = [] ↔ l.all (cs.contains ·) = true := by
  unfold Go.Lib.trimS Go.Lib.trimLeftS Go.Lib.trimRightS
  rw [dropWhile_nil]
  constructor
  · intro h
    rw [List.all_reverse] at h
    by_cases hn : l.reverse.dropWhile (cs.contains ·) = []
    · rw [dropWhile_nil, List.all_reverse] at hn; exact hn
    · have h1 := List.head_dropWhile_not (p := (cs.contains ·)) (l := l.reverse) hn
      rw [List.all_eq_true] at h
      have h2 := h _ (List.head_mem hn)
      rw [h2] at h1; cases h1
  · intro h
    rw [dropWhile_nil.2 (by rw [List.all_reverse]; exact h)]; rfl
theorem str_nil {s : ByteArray} : s = ⟨#[]⟩ ↔ s.size = 0 := by
  constructor
  · rintro rfl; rfl
  · intro h
    obtain ⟨⟨l⟩⟩ := s
    have : l.length = 0 := h
    rw [List.length_eq_zero_iff.1 this]
theorem SH.ofBelow {w w' : World} (h : Below w.heap.size w w') : SH w none' [] w' := ⟨h.os, h.tape, h.output, h.size, fun k hk _ => h.block k hk, by simp, by simp⟩
theorem C_Trim {s : ByteArray} {w : World} (hs : s.size ≤ maxLen) : Con0 Tryz.prog 83 [.string s, .string ⟨cutB.toArray⟩] w (.string ⟨(Go.Lib.trimS s.data.toList cutB).toArray⟩) := by
  unfold maxLen at hs
  have h := Any.strings_Trim_laid Tryz.lays160 (by kernel_rfl) s ⟨cutB.toArray⟩ w (by omega) (by decide) (ascii_of_all (by decide))
  refine Calls.mono h fun e w' he => ?_
  obtain ⟨rfl, hb⟩ := he
  exact ⟨rfl, SH.ofBelow hb⟩
section
variable {w : World}
theorem C_between {x lo hi : Int} : Con0 Tryz.prog 43 [I x, I lo, I hi] w (.bool (betw x lo hi)) := by
  have hd : ∀ q : Bool, (betw x lo hi = true ↔ q = true) → Value.bool q = Value.bool (betw x lo hi) := fun q hq => congrArg Value.bool (by rw [Bool.eq_iff_iff, hq])
  refine Ret_of (vs := [_, _, _]) hm none' Tryz.func43 rfl Tryz.ntmps43 rfl ?_
  dsimp only [slotsOf]
  refine GE_seq ?_
  refine GE_plain (.st 0 .nil) rfl ?_
  refine GT_st rfl rfl rfl rfl (V_assign rfl rfl) ?_
  refine GT_nil ?_
  refine GE_seq ?_
  refine GE_plain (.st 0 (.st 1 (.st 2 (.st 3 (.st 4 (.st 5 (.st 6 (.st 7 (.st 8 .nil))))))))) rfl ?_
  refine GT_st rfl rfl rfl rfl (V_move rfl rfl) ?_
  refine GT_st rfl rfl rfl rfl (V_move rfl rfl) ?_
  refine GT_st rfl rfl rfl rfl (V_geq rfl rfl rfl) ?_
  refine GT_st rfl rfl rfl rfl (V_move rfl rfl) ?_
  first | refine GT_splitNot (d := 10) rfl (fun h1 => ?_) (fun h1 => ?_) | refine GT_split (d := 10) rfl (fun h1 => ?_) (fun h1 => ?_) | refine GT_splitNotB (d := 10) rfl (fun h1 => ?_) (fun h1 => ?_) | refine GT_splitB (d := 10) rfl (fun h1 => ?_) (fun h1 => ?_)
  · skip
    refine GT_st_g rfl rfl rfl rfl rfl rfl rfl (V_move rfl rfl) ?_
    refine GT_st_g rfl rfl rfl rfl rfl rfl rfl (V_move rfl rfl) ?_
    refine GT_st_g rfl rfl rfl rfl rfl rfl rfl (V_leq rfl rfl rfl) ?_
    refine GT_st rfl rfl rfl rfl (V_pick_t rfl rfl rfl) ?_
    refine GT_st rfl rfl rfl rfl (V_assign rfl rfl) ?_
    refine GT_nil ?_
    refine GE_ret Tryz.func43 rfl (fun w hw => ⟨?_, hw.nil⟩)
    refine hd _ ?_; rw [betw_iff]; (first | (simp; done) | (simp; omega))
  · skip
    refine GT_skip rfl rfl rfl rfl rfl (by decide) rfl rfl ?_
    refine GT_skip rfl rfl rfl rfl rfl (by decide) rfl rfl ?_
    refine GT_skip rfl rfl rfl rfl rfl (by decide) rfl rfl ?_
    refine GT_st rfl rfl rfl rfl (V_pick_f rfl rfl rfl) ?_
    refine GT_st rfl rfl rfl rfl (V_assign rfl rfl) ?_
    refine GT_nil ?_
    refine GE_ret Tryz.func43 rfl (fun w hw => ⟨?_, hw.nil⟩)
    refine hd _ ?_; rw [betw_iff]; (first | (simp; done) | (simp; omega))
theorem C_valid {x : Sam} : Con0 Tryz.prog 63 [.agg #[I x.l, I x.r]] w (.bool x.ok) := by
  refine Ret_of (vs := [_]) hm none' Tryz.func63 rfl Tryz.ntmps63 rfl ?_
  dsimp only [slotsOf]
  refine GE_seq ?_
  refine GE_plain (.ld 0 [] (.st 1 .nil)) rfl ?_
  refine GT_box (z := [_, _]) rfl rfl rfl rfl rfl rfl rfl (fun _ => GR_nil) (fun b1 => ?_)
  refine GT_st rfl rfl rfl rfl (V_assign rfl rfl) ?_
  refine GT_nil ?_
  refine GE_seq ?_
  refine GE_plain (.st 0 (.st 1 (.ld 2 [] (.st 3 (.st 4 (.st 5 (.ld 6 [] (.st 7 (.st 8 .nil))))))))) rfl ?_
  first | refine GT_st rfl rfl rfl rfl (V_field rfl rfl fo_52_0) ?_ | refine GT_st rfl rfl rfl rfl (V_fieldA rfl rfl fo_52_0) ?_
  refine GT_st rfl rfl rfl rfl (V_load rfl rfl ag_2 (CellAt.item rfl)) ?_
  refine GT_call0 rfl rfl rfl rfl rfl rfl rfl rfl rn_43 (fun w hw => C_between) (GR_nil) ?_
  refine GT_st rfl rfl rfl rfl (V_move rfl rfl) ?_
  first | refine GT_splitNot (d := 6) rfl (fun h1 => ?_) (fun h1 => ?_) | refine GT_split (d := 6) rfl (fun h1 => ?_) (fun h1 => ?_) | refine GT_splitNotB (d := 6) rfl (fun h1 => ?_) (fun h1 => ?_) | refine GT_splitB (d := 6) rfl (fun h1 => ?_) (fun h1 => ?_)
  · skip
    first | refine GT_st_g rfl rfl rfl rfl rfl rfl rfl (V_field rfl rfl fo_52_1) ?_ | refine GT_st_g rfl rfl rfl rfl rfl rfl rfl (V_fieldA rfl rfl fo_52_1) ?_
    refine GT_st_g rfl rfl rfl rfl rfl rfl rfl (V_load rfl rfl ag_2 (CellAt.item rfl)) ?_
    refine GT_call0_g rfl rfl rfl rfl rfl rfl rfl rfl rfl rfl rfl rn_43 (fun w hw => C_between) (GR_nil) ?_
    refine GT_st rfl rfl rfl rfl (V_pick_t rfl rfl rfl) ?_
    refine GT_st rfl rfl rfl rfl (V_assign rfl rfl) ?_
    refine GT_nil ?_
    refine GE_ret Tryz.func63 rfl (fun w hw => ⟨?_, hw.nil⟩)
    unfold Sam.ok; simp_all
  · skip
    refine GT_skip rfl rfl rfl rfl rfl (by decide) rfl rfl ?_
    refine GT_skip rfl rfl rfl rfl rfl (by decide) rfl rfl ?_
    refine GT_skip_ld rfl rfl rfl rfl rfl (by decide) rfl rfl rfl (GR_nil) ?_
    refine GT_st rfl rfl rfl rfl (V_pick_f rfl rfl rfl) ?_
    refine GT_st rfl rfl rfl rfl (V_assign rfl rfl) ?_
    refine GT_nil ?_
    refine GE_ret Tryz.func63 rfl (fun w hw => ⟨?_, hw.nil⟩)
    unfold Sam.ok; simp_all
theorem C_isName {s : ByteArray} (hs : s.size ≤ maxLen) : Con0 Tryz.prog 58 [.string s] w (.bool (isNm s)) := by
  have e0 := str_nil (s := s)
  have e1 : (⟨(Go.Lib.trimS s.data.toList cutB).toArray⟩ : ByteArray) = ⟨#[]⟩ ↔ s.data.toList.all nmB = true := by
    have : (cutB.contains ·) = nmB := funext nmB_cut
    rw [← this, ← trimS_nil]
    constructor
    · intro h; injection h with h; simpa using h
    · intro h; rw [h]
  refine Ret_of (vs := [_]) hm none' Tryz.func58 rfl Tryz.ntmps58 rfl ?_
  dsimp only [slotsOf]
  refine GE_seq ?_
  refine GE_plain (.st 0 .nil) rfl ?_
  refine GT_st rfl rfl rfl rfl (V_assign rfl rfl) ?_
  refine GT_nil ?_
  refine GE_seq ?_
  refine GE_plain (.st 0 (.st 1 (.st 2 (.st 3 (.st 4 (.st 5 (.st 6 (.st 7 (.st 8 (.ld 9 [] (.st 10 (.st 11 (.st 12 .nil))))))))))))) rfl ?_
  refine GT_st rfl rfl rfl rfl (V_move rfl rfl) ?_
  refine GT_st rfl rfl rfl rfl (V_neqStr rfl rfl rfl) ?_
  refine GT_st rfl rfl rfl rfl (V_move rfl rfl) ?_
  first | refine GT_splitNot (d := 5) rfl (fun h1 => ?_) (fun h1 => ?_) | refine GT_split (d := 5) rfl (fun h1 => ?_) (fun h1 => ?_) | refine GT_splitNotB (d := 5) rfl (fun h1 => ?_) (fun h1 => ?_) | refine GT_splitB (d := 5) rfl (fun h1 => ?_) (fun h1 => ?_)
  · skip
    refine GT_st_g rfl rfl rfl rfl rfl rfl rfl (V_move rfl rfl) ?_
    refine GT_st_g rfl rfl rfl rfl rfl rfl rfl (V_len_str rfl Tryz.underlying9 rfl) ?_
    refine GT_st_g rfl rfl rfl rfl rfl rfl rfl (V_leq rfl rfl rfl) ?_
    refine GT_st rfl rfl rfl rfl (V_pick_t rfl rfl rfl) ?_
    refine GT_st rfl rfl rfl rfl (V_move rfl rfl) ?_
    first | refine GT_splitNot (d := 10) rfl (fun h2 => ?_) (fun h2 => ?_) | refine GT_split (d := 10) rfl (fun h2 => ?_) (fun h2 => ?_) | refine GT_splitNotB (d := 10) rfl (fun h2 => ?_) (fun h2 => ?_) | refine GT_splitB (d := 10) rfl (fun h2 => ?_) (fun h2 => ?_)
    · skip
      refine GT_st_g rfl rfl rfl rfl rfl rfl rfl (V_move rfl rfl) ?_
      refine GT_call0_g rfl rfl rfl rfl rfl rfl rfl rfl rfl rfl rfl rn_83 (fun w hw => C_Trim hs) (GR_nil) ?_
      refine GT_st_g rfl rfl rfl rfl rfl rfl rfl (V_eqlStr rfl rfl rfl) ?_
      refine GT_st rfl rfl rfl rfl (V_pick_t rfl rfl rfl) ?_
      refine GT_st rfl rfl rfl rfl (V_assign rfl rfl) ?_
      refine GT_nil ?_
      refine GE_ret Tryz.func58 rfl (fun w hw => ⟨?_, hw.nil⟩)
      refine congrArg Value.bool ?_; unfold isNm; rw [Bool.eq_iff_iff]; simp only [Bool.and_eq_true, decide_eq_true_iff, Bool.false_eq_true, false_iff, e1]; rw [e0] at h1; first | omega | exact ⟨fun h => ⟨⟨by omega, by omega⟩, h⟩, fun h => h.2⟩
    · skip
      refine GT_skip rfl rfl rfl rfl rfl (by decide) rfl rfl ?_
      refine GT_skip_ld rfl rfl rfl rfl rfl (by decide) rfl rfl rfl (GR_nil) ?_
      refine GT_skip rfl rfl rfl rfl rfl (by decide) rfl rfl ?_
      refine GT_st rfl rfl rfl rfl (V_pick_f rfl rfl rfl) ?_
      refine GT_st rfl rfl rfl rfl (V_assign rfl rfl) ?_
      refine GT_nil ?_
      refine GE_ret Tryz.func58 rfl (fun w hw => ⟨?_, hw.nil⟩)
      refine congrArg Value.bool ?_; unfold isNm; rw [Bool.eq_iff_iff]; simp only [Bool.and_eq_true, decide_eq_true_iff, Bool.false_eq_true, false_iff, e1]; rw [e0] at h1; first | omega | exact ⟨fun h => ⟨⟨by omega, by omega⟩, h⟩, fun h => h.2⟩
  · skip
    refine GT_skip rfl rfl rfl rfl rfl (by decide) rfl rfl ?_
    refine GT_skip rfl rfl rfl rfl rfl (by decide) rfl rfl ?_
    refine GT_skip rfl rfl rfl rfl rfl (by decide) rfl rfl ?_
    refine GT_st rfl rfl rfl rfl (V_pick_f rfl rfl rfl) ?_
    refine GT_st rfl rfl rfl rfl (V_move rfl rfl) ?_
    refine GT_skip rfl rfl rfl rfl rfl (by decide) rfl rfl ?_
    refine GT_skip_ld rfl rfl rfl rfl rfl (by decide) rfl rfl rfl (GR_nil) ?_
    refine GT_skip rfl rfl rfl rfl rfl (by decide) rfl rfl ?_
    refine GT_st rfl rfl rfl rfl (V_pick_f rfl rfl rfl) ?_
    refine GT_st rfl rfl rfl rfl (V_assign rfl rfl) ?_
    refine GT_nil ?_
    refine GE_ret Tryz.func58 rfl (fun w hw => ⟨?_, hw.nil⟩)
    refine congrArg Value.bool ?_; unfold isNm; rw [Bool.eq_iff_iff]; simp only [Bool.and_eq_true, decide_eq_true_iff, Bool.false_eq_true, false_iff, e1]; rw [e0] at h1; first | omega | exact ⟨fun h => ⟨⟨by omega, by omega⟩, h⟩, fun h => h.2⟩
variable {A : Option Addr} {c : Nat}
theorem C_CheckSamples {s : List Sam} (h : RdL w 2 eSam A s) : Con0 Tryz.prog 42 [.slice A s.length c] w (I (sErr s)) := by
  refine Ret_of (vs := [_]) hm none' Tryz.func42 rfl Tryz.ntmps42 rfl ?_
  dsimp only [slotsOf]
  refine GE_seq ?_
  refine GE_plain (.st 0 .nil) rfl ?_
  refine GT_st rfl rfl rfl rfl (V_assign rfl rfl) ?_
  refine GT_nil ?_
  refine GE_seq ?_
  refine GE_seq ?_
  refine GE_plain (.st 0 (.st 1 (.st 2 .nil))) rfl ?_
  refine GT_st rfl rfl rfl rfl (V_move rfl rfl) ?_
  refine GT_st rfl rfl rfl rfl (V_len rfl Tryz.underlying37 rfl) ?_
  refine GT_st rfl rfl rfl rfl (V_gtr rfl rfl rfl) ?_
  refine GT_nil ?_
  first | refine GE_condNot rfl (fun h1 => ?_) (fun h1 => ?_) | refine GE_cond rfl (fun h1 => ?_) (fun h1 => ?_) | refine GE_condNotB rfl (fun h1 => ?_) (fun h1 => ?_) | refine GE_condB rfl (fun h1 => ?_) (fun h1 => ?_)
  · skip
    refine GE_seq ?_
    refine GE_slots (L' := []) trivial ?_
    refine GE_plain (.st 0 .nil) rfl ?_
    refine GT_st rfl rfl rfl rfl (V_assign rfl rfl) ?_
    refine GT_nil ?_
    refine GE_ret Tryz.func42 rfl (fun w hw => ⟨?_, hw.nil⟩)
    rw [sErr, if_pos (by omega)]
  · skip
    refine GE_skip ?_
    refine GE_seq ?_
    refine GE_seq ?_
    refine GE_slots (L' := [(0, _)]) ⟨rfl, trivial⟩ ?_
    refine GE_plain (.st 0 (.st 1 (.st 2 .nil))) rfl ?_
    refine GT_st rfl rfl rfl rfl (V_move rfl rfl) ?_
    refine GT_st rfl rfl rfl rfl (V_len rfl Tryz.underlying37 rfl) ?_
    refine GT_st rfl rfl rfl rfl (V_move rfl rfl) ?_
    refine GT_nil ?_
    refine GE_block ?_
    refine GE_to (GE_loop (ι := Nat) (fun k => s.length - k) (fun k => [(8, .slice A s.length c), (9, I s.length), (10, I k)]) (fun k => []) (fun k => k ≤ s.length ∧ ∀ i, i < k → Sam.ok (s.getD i default) = true) ?_ 0 ?_) ⟨rfl, rfl, rfl, trivial⟩ HS.nil
    · rintro k ⟨hk, hall⟩ ih
      refine GE_seq ?_
      refine GE_plain (.st 0 .nil) rfl ?_
      refine GT_st rfl rfl rfl rfl (V_lss rfl rfl rfl) ?_
      refine GT_nil ?_
      refine GE_seq ?_
      first | refine GE_condNot rfl (fun h2 => ?_) (fun h2 => ?_) | refine GE_cond rfl (fun h2 => ?_) (fun h2 => ?_) | refine GE_condNotB rfl (fun h2 => ?_) (fun h2 => ?_) | refine GE_condB rfl (fun h2 => ?_) (fun h2 => ?_)
      · have hkl : k < s.length := (by omega)
        refine GE_skip ?_
        refine GE_seq ?_
        refine GE_block ?_
        refine GE_seq ?_
        refine GE_plain (.st 0 (.st 1 (.ld 2 [] (.ld 3 [] .nil)))) rfl ?_
        refine GT_st rfl rfl rfl rfl (V_index rfl rfl rfl Tryz.underlying37 sz_52 (k := k) rfl hkl (h.isSome hkl)) ?_
        refine GT_st rfl rfl rfl rfl (V_loadN (vs := [_, _]) rfl rfl ag_52 sz_52 rfl (h.ats noM hkl)) ?_
        refine GT_alloc rfl rfl rfl rfl rfl zc_52 (fun _ => GR_nil) (fun b4 => ?_)
        refine GT_store (vs := [_, _]) (l' := [_, _]) rfl rfl rfl rfl rfl rfl rfl sz_52 rfl rfl (Nat.le_of_ble_eq_true rfl) rfl (GR_nil) ?_
        refine GT_nil ?_
        refine GE_seq ?_
        refine GE_plain (.st 0 (.ld 1 [] (.st 2 .nil))) rfl ?_
        refine GT_st rfl rfl rfl rfl (V_loadN (vs := [_, _]) rfl rfl ag_52 sz_52 rfl (CellsAt.item rfl)) ?_
        refine GT_call0 rfl rfl rfl rfl rfl rfl rfl rfl rn_63 (fun w hw => C_valid) (GR_nil) ?_
        first | refine GT_st rfl rfl rfl rfl (V_not rfl rfl) ?_ | refine GT_st rfl rfl rfl rfl (V_notB rfl rfl) ?_
        refine GT_nil ?_
        first | refine GE_condNot rfl (fun h3 => ?_) (fun h3 => ?_) | refine GE_cond rfl (fun h3 => ?_) (fun h3 => ?_) | refine GE_condNotB rfl (fun h3 => ?_) (fun h3 => ?_) | refine GE_condB rfl (fun h3 => ?_) (fun h3 => ?_)
        · skip
          refine GE_seq ?_
          refine GE_slots (L' := []) trivial ?_
          refine GE_plain (.st 0 .nil) rfl ?_
          refine GT_st rfl rfl rfl rfl (V_assign rfl rfl) ?_
          refine GT_nil ?_
          refine GE_ret Tryz.func42 rfl (fun w hw => ⟨?_, hw.nil⟩)
          rw [sErr, if_neg (by omega), if_neg (by rw [all_split hkl h3]; decide)]
        · skip
          refine GE_skip ?_
          refine GE_inBlock ?_
          refine GE_slots (L' := [(8, _), (9, _), (10, _)]) ⟨rfl, rfl, rfl, trivial⟩ ?_
          refine GE_plain (.st 0 (.ld 1 [] .nil)) rfl ?_
          refine GT_st rfl rfl rfl rfl (V_add rfl rfl rfl (wrap_i64 (by omega))) ?_
          refine GT_ldv rfl rfl rfl rfl rfl (V_move rfl rfl) (GR_nil) ?_
          refine GT_nil ?_
          exact GE_to (ih (k + 1) ⟨by omega, fun i hi => by rcases Nat.lt_or_ge i k with r | r; exact hall i r; rw [show i = k by omega]; exact h3⟩ (by omega)) ⟨rfl, rfl, rfl, trivial⟩ HS.nil
      · skip
        refine GE_exit rfl ?_
        refine GE_seq ?_
        refine GE_slots (L' := []) trivial ?_
        refine GE_plain (.st 0 .nil) rfl ?_
        refine GT_st rfl rfl rfl rfl (V_assign rfl rfl) ?_
        refine GT_nil ?_
        refine GE_ret Tryz.func42 rfl (fun w hw => ⟨?_, hw.nil⟩)
        rw [sErr, if_neg (by omega), if_pos (all_getD.2 fun i hi => hall i (by omega))]
    · exact ⟨Nat.zero_le _, fun i hi => absurd hi (Nat.not_lt_zero _)⟩
theorem C_CheckSamplesN {s : List Sam} {n : Nat} (hn : s.length = n) (h : RdL w 2 eSam A s) : Con0 Tryz.prog 42 [.slice A n c] w (I (sErr s)) := hn ▸ C_CheckSamples h
theorem C_checkTake {t : Tk} (h : RdL w 2 eSam t.A t.data) (hn : t.name.size ≤ maxLen) : Con0 Tryz.prog 33 [.agg #[.string t.name, .slice t.A t.data.length t.c]] w (I (tErr t)) := by
  have hq : tErr t = if sErr t.data = 6 then 6 else if isNm t.name = true ∧ t.data.length ≠ 0 then sErr t.data else 2 := by
    unfold tErr sErr
    by_cases h1 : 4096 < t.data.length
    · simp [h1]
    · by_cases h2 : t.data.all Sam.ok = true <;> by_cases h3 : isNm t.name = true <;> by_cases h4 : t.data.length = 0 <;> simp [h1, h2, h3, h4]
  refine Ret_of (vs := [_]) hm none' Tryz.func33 rfl Tryz.ntmps33 rfl ?_
  dsimp only [slotsOf]
  refine GE_seq ?_
  refine GE_plain (.ld 0 [] (.st 1 .nil)) rfl ?_
  refine GT_box (z := [_, _]) rfl rfl rfl rfl rfl rfl rfl (fun _ => GR_nil) (fun b1 => ?_)
  refine GT_st rfl rfl rfl rfl (V_assign rfl rfl) ?_
  refine GT_nil ?_
  refine GE_seq ?_
  refine GE_plain (.st 0 (.st 1 (.ld 2 [] (.st 3 .nil)))) rfl ?_
  first | refine GT_st rfl rfl rfl rfl (V_field rfl rfl fo_39_1) ?_ | refine GT_st rfl rfl rfl rfl (V_fieldA rfl rfl fo_39_1) ?_
  refine GT_st rfl rfl rfl rfl (V_load rfl rfl ag_37 (CellAt.item rfl)) ?_
  refine GT_call0 rfl rfl rfl rfl rfl rfl rfl rfl rn_42 (fun w hw => C_CheckSamples (h.sh hw)) (GR_nil) ?_
  refine GT_st rfl rfl rfl rfl (V_assign rfl rfl) ?_
  refine GT_nil ?_
  refine GE_seq ?_
  refine GE_seq ?_
  refine GE_slots (L' := [(1, _), (3, _)]) ⟨rfl, rfl, trivial⟩ ?_
  refine GE_plain (.st 0 (.st 1 (.st 2 (.st 3 (.st 4 (.ld 5 [] (.st 6 (.st 7 (.st 8 (.st 9 (.st 10 (.st 11 (.st 12 (.st 13 .nil)))))))))))))) rfl ?_
  refine GT_st rfl rfl rfl rfl (V_move rfl rfl) ?_
  refine GT_st rfl rfl rfl rfl (V_neq rfl rfl rfl) ?_
  refine GT_st rfl rfl rfl rfl (V_move rfl rfl) ?_
  first | refine GT_splitNot (d := 9) rfl (fun h1 => ?_) (fun h1 => ?_) | refine GT_split (d := 9) rfl (fun h1 => ?_) (fun h1 => ?_) | refine GT_splitNotB (d := 9) rfl (fun h1 => ?_) (fun h1 => ?_) | refine GT_splitB (d := 9) rfl (fun h1 => ?_) (fun h1 => ?_)
  · skip
    first | refine GT_st_g rfl rfl rfl rfl rfl rfl rfl (V_field rfl rfl fo_39_0) ?_ | refine GT_st_g rfl rfl rfl rfl rfl rfl rfl (V_fieldA rfl rfl fo_39_0) ?_
    refine GT_st_g rfl rfl rfl rfl rfl rfl rfl (V_load rfl rfl ag_9 (CellAt.item rfl)) ?_
    refine GT_call0_g rfl rfl rfl rfl rfl rfl rfl rfl rfl rfl rfl rn_58 (fun w hw => C_isName hn) (GR_nil) ?_
    first | refine GT_st_g rfl rfl rfl rfl rfl rfl rfl (V_not rfl rfl) ?_ | refine GT_st_g rfl rfl rfl rfl rfl rfl rfl (V_notB rfl rfl) ?_
    refine GT_st_g rfl rfl rfl rfl rfl rfl rfl (V_move rfl rfl) ?_
    first | refine GT_splitNot (d := 14) rfl (fun h2 => ?_) (fun h2 => ?_) | refine GT_split (d := 14) rfl (fun h2 => ?_) (fun h2 => ?_) | refine GT_splitNotB (d := 14) rfl (fun h2 => ?_) (fun h2 => ?_) | refine GT_splitB (d := 14) rfl (fun h2 => ?_) (fun h2 => ?_)
    · skip
      refine GT_skip rfl rfl rfl rfl rfl (by decide) rfl rfl ?_
      refine GT_skip rfl rfl rfl rfl rfl (by decide) rfl rfl ?_
      refine GT_skip rfl rfl rfl rfl rfl (by decide) rfl rfl ?_
      refine GT_skip rfl rfl rfl rfl rfl (by decide) rfl rfl ?_
      refine GT_st_g rfl rfl rfl rfl rfl rfl rfl (V_pick_t rfl rfl rfl) ?_
      refine GT_st rfl rfl rfl rfl (V_pick_t rfl rfl rfl) ?_
      refine GT_nil ?_
      refine GE_cond_t rfl ?_
      refine GE_slots (L' := []) trivial ?_
      refine GE_plain (.st 0 .nil) rfl ?_
      refine GT_st rfl rfl rfl rfl (V_assign rfl rfl) ?_
      refine GT_nil ?_
      refine GE_seq ?_
      refine GE_plain (.st 0 (.st 1 .nil)) rfl ?_
      refine GT_st rfl rfl rfl rfl (V_move rfl rfl) ?_
      refine GT_st rfl rfl rfl rfl (V_assign rfl rfl) ?_
      refine GT_nil ?_
      refine GE_ret Tryz.func33 rfl (fun w hw => ⟨?_, hw.nil⟩)
      refine congrArg I ?_; rw [hq]; simp_all
    · skip
      first | refine GT_st_g rfl rfl rfl rfl rfl rfl rfl (V_field rfl rfl fo_39_1) ?_ | refine GT_st_g rfl rfl rfl rfl rfl rfl rfl (V_fieldA rfl rfl fo_39_1) ?_
      refine GT_st_g rfl rfl rfl rfl rfl rfl rfl (V_load rfl rfl ag_37 (CellAt.item rfl)) ?_
      refine GT_st_g rfl rfl rfl rfl rfl rfl rfl (V_len rfl Tryz.underlying37 rfl) ?_
      refine GT_st_g rfl rfl rfl rfl rfl rfl rfl (V_eql rfl rfl rfl) ?_
      refine GT_st_g rfl rfl rfl rfl rfl rfl rfl (V_pick_f rfl rfl rfl) ?_
      refine GT_st rfl rfl rfl rfl (V_pick_t rfl rfl rfl) ?_
      refine GT_nil ?_
      first | refine GE_condNot rfl (fun h1 => ?_) (fun h1 => ?_) | refine GE_cond rfl (fun h1 => ?_) (fun h1 => ?_) | refine GE_condNotB rfl (fun h1 => ?_) (fun h1 => ?_) | refine GE_condB rfl (fun h1 => ?_) (fun h1 => ?_)
      · skip
        refine GE_slots (L' := []) trivial ?_
        refine GE_plain (.st 0 .nil) rfl ?_
        refine GT_st rfl rfl rfl rfl (V_assign rfl rfl) ?_
        refine GT_nil ?_
        refine GE_seq ?_
        refine GE_plain (.st 0 (.st 1 .nil)) rfl ?_
        refine GT_st rfl rfl rfl rfl (V_move rfl rfl) ?_
        refine GT_st rfl rfl rfl rfl (V_assign rfl rfl) ?_
        refine GT_nil ?_
        refine GE_ret Tryz.func33 rfl (fun w hw => ⟨?_, hw.nil⟩)
        refine congrArg I ?_; rw [hq]; simp_all
      · skip
        refine GE_skip ?_
        refine GE_seq ?_
        refine GE_slots (L' := [(3, _)]) ⟨rfl, trivial⟩ ?_
        refine GE_plain (.st 0 (.st 1 .nil)) rfl ?_
        refine GT_st rfl rfl rfl rfl (V_move rfl rfl) ?_
        refine GT_st rfl rfl rfl rfl (V_assign rfl rfl) ?_
        refine GT_nil ?_
        refine GE_ret Tryz.func33 rfl (fun w hw => ⟨?_, hw.nil⟩)
        refine congrArg I ?_; rw [hq]; simp_all
  · skip
    refine GT_skip rfl rfl rfl rfl rfl (by decide) rfl rfl ?_
    refine GT_skip rfl rfl rfl rfl rfl (by decide) rfl rfl ?_
    refine GT_skip_ld rfl rfl rfl rfl rfl (by decide) rfl rfl rfl (GR_nil) ?_
    refine GT_skip rfl rfl rfl rfl rfl (by decide) rfl rfl ?_
    refine GT_skip rfl rfl rfl rfl rfl (by decide) rfl rfl ?_
    refine GT_skip rfl rfl rfl rfl rfl (by decide) rfl rfl ?_
    refine GT_skip rfl rfl rfl rfl rfl (by decide) rfl rfl ?_
    refine GT_skip rfl rfl rfl rfl rfl (by decide) rfl rfl ?_
    refine GT_skip rfl rfl rfl rfl rfl (by decide) rfl rfl ?_
    refine GT_skip rfl rfl rfl rfl rfl (by decide) rfl rfl ?_
    refine GT_st rfl rfl rfl rfl (V_pick_f rfl rfl rfl) ?_
    refine GT_nil ?_
    refine GE_cond_f rfl ?_
    refine GE_skip ?_
    refine GE_seq ?_
    refine GE_slots (L' := [(3, _)]) ⟨rfl, trivial⟩ ?_
    refine GE_plain (.st 0 (.st 1 .nil)) rfl ?_
    refine GT_st rfl rfl rfl rfl (V_move rfl rfl) ?_
    refine GT_st rfl rfl rfl rfl (V_assign rfl rfl) ?_
    refine GT_nil ?_
    refine GE_ret Tryz.func33 rfl (fun w hw => ⟨?_, hw.nil⟩)
    refine congrArg I ?_; rw [hq]; simp_all
theorem lErr_six {l : List Tk} {k : Nat} (hk : k < l.length) (h : tErr (l.getD k default) = 6) : lErr l = 6 := by
  unfold lErr
  split
  · rfl
  · rw [if_pos (by rw [List.any_eq_true]; exact ⟨_, getD_mem hk, decide_eq_true h⟩)]
theorem map_take_succ {l : List Tk} {k : Nat} (hk : k < l.length) : (l.take (k + 1)).map Tk.name = (l.take k).map Tk.name ++ [(l.getD k default).name] := by
  rw [List.take_add_one, List.getElem?_eq_getElem hk, List.map_append]; simp [List.getD, hk]
theorem lErr_fin {l : List Tk} {wo : Int} {ks : List KV} (h1 : 1 ≤ l.length ∧ l.length ≤ 16) (h6 : ∀ i, i < l.length → tErr (l.getD i default) ≠ 6)
    (hwo : (wo = 0 ∧ ∀ i, i < l.length → tErr (l.getD i default) = 0) ∨ (wo = 2 ∧ ∃ i, i < l.length ∧ tErr (l.getD i default) ≠ 0)) (hks : ks.map (·.1) = uniq ((l.take l.length).map Tk.name)) :
    lErr l = if wo = 0 then (if (ks.length : Int) < l.length then 12 else 0) else wo := by
  have n6 : ¬ l.any (fun t => decide (tErr t = 6)) = true := by
    rw [List.any_eq_true]; rintro ⟨t, ht, e⟩
    obtain ⟨i, hi, rfl⟩ := List.getElem_of_mem ht
    have := h6 i hi
    simp [List.getD, hi] at this e; exact this e
  have hl := uniq_len (l.map Tk.name)
  rw [List.take_length] at hks
  rw [← hks, List.length_map, List.length_map] at hl
  unfold lErr
  rw [if_neg (by omega), if_neg n6]
  rcases hwo with ⟨rfl, h0⟩ | ⟨rfl, i, hi, h0⟩
  · have n2 : ¬ l.any (fun t => decide (tErr t ≠ 0)) = true := by
      rw [List.any_eq_true]; rintro ⟨t, ht, e⟩
      obtain ⟨i, hi, rfl⟩ := List.getElem_of_mem ht
      have := h0 i hi
      simp [List.getD, hi] at this e; exact e this
    rw [if_neg n2, if_pos rfl]
    by_cases hq : (l.map Tk.name).Nodup
    · rw [if_pos hq, if_neg]; have := hl.2.2 hq; omega
    · rw [if_neg hq, if_pos]
      have : ks.length ≠ l.length := fun e => hq (hl.2.1 e)
      omega
  · rw [if_pos, if_neg (by omega)]
    rw [List.any_eq_true]
    exact ⟨_, getD_mem hi, decide_eq_true h0⟩
set_option maxRecDepth 10000 in
theorem C_CheckTakes {l : List Tk} (h : Tks w A l) : Con0 Tryz.prog 25 [.slice A l.length c] w (I (lErr l)) := by
  refine Ret_of (vs := [_]) hm none' Tryz.func25 rfl Tryz.ntmps25 rfl ?_
  dsimp only [slotsOf]
  refine GE_seq ?_
  refine GE_plain (.st 0 .nil) rfl ?_
  refine GT_st rfl rfl rfl rfl (V_assign rfl rfl) ?_
  refine GT_nil ?_
  refine GE_seq ?_
  refine GE_seq ?_
  refine GE_plain (.st 0 (.st 1 (.st 2 (.st 3 (.st 4 (.st 5 (.st 6 (.st 7 .nil)))))))) rfl ?_
  refine GT_st rfl rfl rfl rfl (V_move rfl rfl) ?_
  refine GT_st rfl rfl rfl rfl (V_len rfl Tryz.underlying22 rfl) ?_
  refine GT_st rfl rfl rfl rfl (V_lss rfl rfl rfl) ?_
  refine GT_st rfl rfl rfl rfl (V_move rfl rfl) ?_
  first | refine GT_splitNot (d := 11) rfl (fun h1 => ?_) (fun h1 => ?_) | refine GT_split (d := 11) rfl (fun h1 => ?_) (fun h1 => ?_) | refine GT_splitNotB (d := 11) rfl (fun h1 => ?_) (fun h1 => ?_) | refine GT_splitB (d := 11) rfl (fun h1 => ?_) (fun h1 => ?_)
  · skip
    refine GT_skip rfl rfl rfl rfl rfl (by decide) rfl rfl ?_
    refine GT_skip rfl rfl rfl rfl rfl (by decide) rfl rfl ?_
    refine GT_skip rfl rfl rfl rfl rfl (by decide) rfl rfl ?_
    refine GT_st rfl rfl rfl rfl (V_pick_t rfl rfl rfl) ?_
    refine GT_nil ?_
    refine GE_cond_t rfl ?_
    refine GE_seq ?_
    refine GE_slots (L' := []) trivial ?_
    refine GE_plain (.st 0 .nil) rfl ?_
    refine GT_st rfl rfl rfl rfl (V_assign rfl rfl) ?_
    refine GT_nil ?_
    refine GE_ret Tryz.func25 rfl (fun w hw => ⟨?_, hw.nil⟩)
    refine congrArg I ?_; first | (rw [hfin]; simp_all; done) | (rw [lErr, if_pos (by omega)])
  · skip
    refine GT_st_g rfl rfl rfl rfl rfl rfl rfl (V_move rfl rfl) ?_
    refine GT_st_g rfl rfl rfl rfl rfl rfl rfl (V_len rfl Tryz.underlying22 rfl) ?_
    refine GT_st_g rfl rfl rfl rfl rfl rfl rfl (V_gtr rfl rfl rfl) ?_
    refine GT_st rfl rfl rfl rfl (V_pick_f rfl rfl rfl) ?_
    refine GT_nil ?_
    first | refine GE_condNot rfl (fun h2 => ?_) (fun h2 => ?_) | refine GE_cond rfl (fun h2 => ?_) (fun h2 => ?_) | refine GE_condNotB rfl (fun h2 => ?_) (fun h2 => ?_) | refine GE_condB rfl (fun h2 => ?_) (fun h2 => ?_)
    · skip
      refine GE_seq ?_
      refine GE_slots (L' := []) trivial ?_
      refine GE_plain (.st 0 .nil) rfl ?_
      refine GT_st rfl rfl rfl rfl (V_assign rfl rfl) ?_
      refine GT_nil ?_
      refine GE_ret Tryz.func25 rfl (fun w hw => ⟨?_, hw.nil⟩)
      refine congrArg I ?_; rw [lErr, if_pos (by omega)]
    · skip
      refine GE_skip ?_
      refine GE_seq ?_
      refine GE_slots (L' := [(0, _)]) ⟨rfl, trivial⟩ ?_
      refine GE_plain (.st 0 .nil) rfl ?_
      refine GT_st rfl rfl rfl rfl (V_assign rfl rfl) ?_
      refine GT_nil ?_
      refine GE_seq ?_
      refine GE_plain (.ld 0 [] (.st 1 .nil)) rfl ?_
      refine GT_makeMap rfl rfl rfl rfl rfl (fun _ => GR_nil) (fun b16 => ?_)
      refine GT_st rfl rfl rfl rfl (V_assign rfl rfl) ?_
      refine GT_nil ?_
      refine GE_seq ?_
      refine GE_seq ?_
      refine GE_plain (.st 0 (.st 1 (.st 2 .nil))) rfl ?_
      refine GT_st rfl rfl rfl rfl (V_move rfl rfl) ?_
      refine GT_st rfl rfl rfl rfl (V_len rfl Tryz.underlying22 rfl) ?_
      refine GT_st rfl rfl rfl rfl (V_move rfl rfl) ?_
      refine GT_nil ?_
      refine GE_block ?_
      refine GE_to (GE_loop (ι := Nat × Int × List KV) (fun x => l.length - x.1) (fun x => [(0, .slice A l.length c), (3, I x.2.1), (4, .map (some b16)), (17, .slice A l.length c), (18, I l.length), (19, I x.1)]) (fun x => [(b16, mobj x.2.2)]) (fun x => x.1 ≤ l.length ∧ (∀ i, i < x.1 → tErr (l.getD i default) ≠ 6) ∧ ((x.2.1 = 0 ∧ ∀ i, i < x.1 → tErr (l.getD i default) = 0) ∨ (x.2.1 = 2 ∧ ∃ i, i < x.1 ∧ tErr (l.getD i default) ≠ 0)) ∧ x.2.2.map (·.1) = uniq ((l.take x.1).map Tk.name) ∧ ∀ e ∈ x.2.2, 0 ≤ e.2 ∧ e.2 ≤ x.1) ?_ (0, 0, []) ?_) ⟨rfl, rfl, rfl, rfl, rfl, rfl, trivial⟩ (HS.cons rfl HS.nil)
      · rintro ⟨k, wo, ks⟩ ⟨hk, h6, hwo, hks, hkb⟩ ih; dsimp only at hk h6 hwo hks hkb ih ⊢
        refine GE_seq ?_
        refine GE_plain (.st 0 .nil) rfl ?_
        refine GT_st rfl rfl rfl rfl (V_lss rfl rfl rfl) ?_
        refine GT_nil ?_
        refine GE_seq ?_
        first | refine GE_condNot rfl (fun h3 => ?_) (fun h3 => ?_) | refine GE_cond rfl (fun h3 => ?_) (fun h3 => ?_) | refine GE_condNotB rfl (fun h3 => ?_) (fun h3 => ?_) | refine GE_condB rfl (fun h3 => ?_) (fun h3 => ?_)
        · have hkl : k < l.length := (by omega); have ht := h.2 _ (getD_mem hkl); have hmg := mget_bd hkb (Int.natCast_nonneg k) (k := (l.getD k default).name)
          refine GE_skip ?_
          refine GE_seq ?_
          refine GE_block ?_
          refine GE_seq ?_
          refine GE_plain (.st 0 (.st 1 (.ld 2 [] (.ld 3 [] .nil)))) rfl ?_
          refine GT_st rfl rfl rfl rfl (V_index rfl rfl rfl Tryz.underlying22 sz_39 (k := k) rfl hkl (h.1.isSome hkl)) ?_
          refine GT_st rfl rfl rfl rfl (V_loadN (vs := [_, _]) rfl rfl ag_39 sz_39 rfl (h.1.ats noM hkl)) ?_
          refine GT_alloc rfl rfl rfl rfl rfl zc_39 (fun _ => GR_nil) (fun b6 => ?_)
          refine GT_store (vs := [_, _]) (l' := [_, _]) rfl rfl rfl rfl rfl rfl rfl sz_39 rfl rfl (Nat.le_of_ble_eq_true rfl) rfl (GR_nil) ?_
          refine GT_nil ?_
          refine GE_seq ?_
          refine GE_seq ?_
          refine GE_plain (.st 0 (.ld 1 [] (.st 2 .nil))) rfl ?_
          refine GT_st rfl rfl rfl rfl (V_loadN (vs := [_, _]) rfl rfl ag_39 sz_39 rfl (CellsAt.item rfl)) ?_
          refine GT_call0 rfl rfl rfl rfl rfl rfl rfl rfl rn_33 (fun w hw => C_checkTake (t := l.getD k default) (ht.1.sh hw) ht.2.1) (GR_nil) ?_
          refine GT_st rfl rfl rfl rfl (V_assign rfl rfl) ?_
          refine GT_nil ?_
          refine GE_block ?_
          refine GE_seq ?_
          refine GE_slots (L' := [(0, _), (3, _), (4, _), (6, _), (7, _), (17, _), (18, _), (19, _)]) ⟨rfl, rfl, rfl, rfl, rfl, rfl, rfl, rfl, trivial⟩ ?_
          refine GE_plain (.st 0 (.st 1 (.st 2 .nil))) rfl ?_
          refine GT_st rfl rfl rfl rfl (V_move rfl rfl) ?_
          refine GT_st rfl rfl rfl rfl (V_eql rfl rfl rfl) ?_
          refine GT_st rfl rfl rfl rfl (V_assign rfl rfl) ?_
          refine GT_nil ?_
          first | refine GE_condNot rfl (fun h4 => ?_) (fun h4 => ?_) | refine GE_cond rfl (fun h4 => ?_) (fun h4 => ?_) | refine GE_condNotB rfl (fun h4 => ?_) (fun h4 => ?_) | refine GE_condB rfl (fun h4 => ?_) (fun h4 => ?_)
          · skip
            refine GE_seq ?_
            refine GE_slots (L' := [(7, _)]) ⟨rfl, trivial⟩ ?_
            refine GE_plain (.st 0 (.st 1 .nil)) rfl ?_
            refine GT_st rfl rfl rfl rfl (V_move rfl rfl) ?_
            refine GT_st rfl rfl rfl rfl (V_assign rfl rfl) ?_
            refine GT_nil ?_
            refine GE_ret Tryz.func25 rfl (fun w hw => ⟨?_, hw.nil⟩)
            rw [lErr_six hkl h4]; exact congrArg I h4
          · skip
            refine GE_seq ?_
            refine GE_plain (.st 0 (.st 1 (.st 2 .nil))) rfl ?_
            refine GT_st rfl rfl rfl rfl (V_move rfl rfl) ?_
            refine GT_st rfl rfl rfl rfl (V_neq rfl rfl rfl) ?_
            refine GT_st rfl rfl rfl rfl (V_assign rfl rfl) ?_
            refine GT_nil ?_
            first | refine GE_condNot rfl (fun h5 => ?_) (fun h5 => ?_) | refine GE_cond rfl (fun h5 => ?_) (fun h5 => ?_) | refine GE_condNotB rfl (fun h5 => ?_) (fun h5 => ?_) | refine GE_condB rfl (fun h5 => ?_) (fun h5 => ?_)
            · skip
              refine GE_slots (L' := [(0, _), (4, _), (6, _), (7, _), (17, _), (18, _), (19, _)]) ⟨rfl, rfl, rfl, rfl, rfl, rfl, rfl, trivial⟩ ?_
              refine GE_plain (.st 0 (.st 1 .nil)) rfl ?_
              refine GT_st rfl rfl rfl rfl (V_move rfl rfl) ?_
              refine GT_st rfl rfl rfl rfl (V_assign rfl rfl) ?_
              refine GT_nil ?_
              refine GE_inBlock ?_
              refine GE_plain (.st 0 (.st 1 (.st 2 (.st 3 (.st 4 (.ld 5 [] .nil)))))) rfl ?_
              refine GT_st rfl rfl rfl rfl (V_move rfl rfl) ?_
              first | refine GT_st rfl rfl rfl rfl (V_field rfl rfl fo_39_0) ?_ | refine GT_st rfl rfl rfl rfl (V_fieldA rfl rfl fo_39_0) ?_
              refine GT_st rfl rfl rfl rfl (V_load rfl rfl ag_9 (CellAt.item rfl)) ?_
              refine GT_st rfl rfl rfl rfl (V_lookup rfl rfl rfl Tryz.underlying71 Tryz.underlying9 zv_3) ?_
              refine GT_st rfl rfl rfl rfl (V_add rfl rfl rfl (wrap_i64 (by omega))) ?_
              refine GT_mapUpdate rfl rfl rfl rfl rfl rfl rfl Tryz.underlying71 Tryz.underlying9 (GR_nil) ?_
              refine GT_nil ?_
              refine GE_inBlock ?_
              refine GE_slots (L' := [(0, _), (3, _), (4, _), (17, _), (18, _), (19, _)]) ⟨rfl, rfl, rfl, rfl, rfl, rfl, trivial⟩ ?_
              refine GE_plain (.st 0 (.ld 1 [] .nil)) rfl ?_
              refine GT_st rfl rfl rfl rfl (V_add rfl rfl rfl (wrap_i64 (by omega))) ?_
              refine GT_ldv rfl rfl rfl rfl rfl (V_move rfl rfl) (GR_nil) ?_
              refine GT_nil ?_
              first
                | exact GE_to (ih (k + 1, tErr (l.getD k default), mput ks (l.getD k default).name (mget ks (l.getD k default).name + 1)) ⟨by dsimp only; omega, fun i hi => by rcases Nat.lt_or_ge i k with r | r; exact h6 i r; rw [show i = k by dsimp only at hi; omega]; exact h4, .inr ⟨by have := tErr_cases (l.getD k default); dsimp only; omega, k, by dsimp only; omega, h5⟩, by dsimp only; rw [mput_keys, hks, map_take_succ hkl, uniq_snoc], by dsimp only; exact mput_bd (fun e he => by have := hkb e he; omega) (by omega)⟩ (by dsimp only; omega)) ⟨rfl, rfl, rfl, rfl, rfl, rfl, trivial⟩ (HS.cons rfl HS.nil)
                | exact GE_to (ih (k + 1, wo, mput ks (l.getD k default).name (mget ks (l.getD k default).name + 1)) ⟨by dsimp only; omega, fun i hi => by rcases Nat.lt_or_ge i k with r | r; exact h6 i r; rw [show i = k by dsimp only at hi; omega]; exact h4, by rcases hwo with ⟨e, hz⟩ | ⟨e, i, hi, hn⟩; exact .inl ⟨e, fun i hi => by rcases Nat.lt_or_ge i k with r | r; exact hz i r; rw [show i = k by dsimp only at hi; omega]; exact h5⟩; exact .inr ⟨e, i, by dsimp only; omega, hn⟩, by dsimp only; rw [mput_keys, hks, map_take_succ hkl, uniq_snoc], by dsimp only; exact mput_bd (fun e he => by have := hkb e he; omega) (by omega)⟩ (by dsimp only; omega)) ⟨rfl, rfl, rfl, rfl, rfl, rfl, trivial⟩ (HS.cons rfl HS.nil)
            · skip
              refine GE_skip ?_
              refine GE_inBlock ?_
              refine GE_slots (L' := [(0, _), (3, _), (4, _), (6, _), (17, _), (18, _), (19, _)]) ⟨rfl, rfl, rfl, rfl, rfl, rfl, rfl, trivial⟩ ?_
              refine GE_plain (.st 0 (.st 1 (.st 2 (.st 3 (.st 4 (.ld 5 [] .nil)))))) rfl ?_
              refine GT_st rfl rfl rfl rfl (V_move rfl rfl) ?_
              first | refine GT_st rfl rfl rfl rfl (V_field rfl rfl fo_39_0) ?_ | refine GT_st rfl rfl rfl rfl (V_fieldA rfl rfl fo_39_0) ?_
              refine GT_st rfl rfl rfl rfl (V_load rfl rfl ag_9 (CellAt.item rfl)) ?_
              refine GT_st rfl rfl rfl rfl (V_lookup rfl rfl rfl Tryz.underlying71 Tryz.underlying9 zv_3) ?_
              refine GT_st rfl rfl rfl rfl (V_add rfl rfl rfl (wrap_i64 (by omega))) ?_
              refine GT_mapUpdate rfl rfl rfl rfl rfl rfl rfl Tryz.underlying71 Tryz.underlying9 (GR_nil) ?_
              refine GT_nil ?_
              refine GE_inBlock ?_
              refine GE_slots (L' := [(0, _), (3, _), (4, _), (17, _), (18, _), (19, _)]) ⟨rfl, rfl, rfl, rfl, rfl, rfl, trivial⟩ ?_
              refine GE_plain (.st 0 (.ld 1 [] .nil)) rfl ?_
              refine GT_st rfl rfl rfl rfl (V_add rfl rfl rfl (wrap_i64 (by omega))) ?_
              refine GT_ldv rfl rfl rfl rfl rfl (V_move rfl rfl) (GR_nil) ?_
              refine GT_nil ?_
              first
                | exact GE_to (ih (k + 1, tErr (l.getD k default), mput ks (l.getD k default).name (mget ks (l.getD k default).name + 1)) ⟨by dsimp only; omega, fun i hi => by rcases Nat.lt_or_ge i k with r | r; exact h6 i r; rw [show i = k by dsimp only at hi; omega]; exact h4, .inr ⟨by have := tErr_cases (l.getD k default); dsimp only; omega, k, by dsimp only; omega, h5⟩, by dsimp only; rw [mput_keys, hks, map_take_succ hkl, uniq_snoc], by dsimp only; exact mput_bd (fun e he => by have := hkb e he; omega) (by omega)⟩ (by dsimp only; omega)) ⟨rfl, rfl, rfl, rfl, rfl, rfl, trivial⟩ (HS.cons rfl HS.nil)
                | exact GE_to (ih (k + 1, wo, mput ks (l.getD k default).name (mget ks (l.getD k default).name + 1)) ⟨by dsimp only; omega, fun i hi => by rcases Nat.lt_or_ge i k with r | r; exact h6 i r; rw [show i = k by dsimp only at hi; omega]; exact h4, by rcases hwo with ⟨e, hz⟩ | ⟨e, i, hi, hn⟩; exact .inl ⟨e, fun i hi => by rcases Nat.lt_or_ge i k with r | r; exact hz i r; rw [show i = k by dsimp only at hi; omega]; exact h5⟩; exact .inr ⟨e, i, by dsimp only; omega, hn⟩, by dsimp only; rw [mput_keys, hks, map_take_succ hkl, uniq_snoc], by dsimp only; exact mput_bd (fun e he => by have := hkb e he; omega) (by omega)⟩ (by dsimp only; omega)) ⟨rfl, rfl, rfl, rfl, rfl, rfl, trivial⟩ (HS.cons rfl HS.nil)
        · obtain rfl : k = l.length := (by omega); have hfin := lErr_fin (by omega) h6 hwo hks
          refine GE_exit rfl ?_
          refine GE_seq ?_
          refine GE_seq ?_
          refine GE_slots (L' := [(0, _), (3, _), (4, _)]) ⟨rfl, rfl, rfl, trivial⟩ ?_
          refine GE_plain (.st 0 (.st 1 (.st 2 (.st 3 (.st 4 (.st 5 (.st 6 (.st 7 (.st 8 .nil))))))))) rfl ?_
          refine GT_st rfl rfl rfl rfl (V_move rfl rfl) ?_
          refine GT_st rfl rfl rfl rfl (V_eql rfl rfl rfl) ?_
          refine GT_st rfl rfl rfl rfl (V_move rfl rfl) ?_
          first | refine GT_splitNot (d := 41) rfl (fun h6 => ?_) (fun h6 => ?_) | refine GT_split (d := 41) rfl (fun h6 => ?_) (fun h6 => ?_) | refine GT_splitNotB (d := 41) rfl (fun h6 => ?_) (fun h6 => ?_) | refine GT_splitB (d := 41) rfl (fun h6 => ?_) (fun h6 => ?_)
          · skip
            refine GT_st_g rfl rfl rfl rfl rfl rfl rfl (V_move rfl rfl) ?_
            refine GT_st_g rfl rfl rfl rfl rfl rfl rfl (V_lenMap rfl rfl Tryz.underlying71) ?_
            refine GT_st_g rfl rfl rfl rfl rfl rfl rfl (V_move rfl rfl) ?_
            refine GT_st_g rfl rfl rfl rfl rfl rfl rfl (V_len rfl Tryz.underlying22 rfl) ?_
            refine GT_st_g rfl rfl rfl rfl rfl rfl rfl (V_lss rfl rfl rfl) ?_
            refine GT_st rfl rfl rfl rfl (V_pick_t rfl rfl rfl) ?_
            refine GT_nil ?_
            first | refine GE_condNot rfl (fun h7 => ?_) (fun h7 => ?_) | refine GE_cond rfl (fun h7 => ?_) (fun h7 => ?_) | refine GE_condNotB rfl (fun h7 => ?_) (fun h7 => ?_) | refine GE_condB rfl (fun h7 => ?_) (fun h7 => ?_)
            · skip
              refine GE_slots (L' := []) trivial ?_
              refine GE_plain (.st 0 .nil) rfl ?_
              refine GT_st rfl rfl rfl rfl (V_assign rfl rfl) ?_
              refine GT_nil ?_
              refine GE_seq ?_
              refine GE_plain (.st 0 (.st 1 .nil)) rfl ?_
              refine GT_st rfl rfl rfl rfl (V_move rfl rfl) ?_
              refine GT_st rfl rfl rfl rfl (V_assign rfl rfl) ?_
              refine GT_nil ?_
              refine GE_ret Tryz.func25 rfl (fun w hw => ⟨?_, hw.nil⟩)
              refine congrArg I ?_; first | (rw [hfin]; simp_all; done) | (rw [lErr, if_pos (by omega)])
            · skip
              refine GE_skip ?_
              refine GE_seq ?_
              refine GE_slots (L' := [(3, _)]) ⟨rfl, trivial⟩ ?_
              refine GE_plain (.st 0 (.st 1 .nil)) rfl ?_
              refine GT_st rfl rfl rfl rfl (V_move rfl rfl) ?_
              refine GT_st rfl rfl rfl rfl (V_assign rfl rfl) ?_
              refine GT_nil ?_
              refine GE_ret Tryz.func25 rfl (fun w hw => ⟨?_, hw.nil⟩)
              refine congrArg I ?_; first | (rw [hfin]; simp_all; done) | (rw [lErr, if_pos (by omega)])
          · skip
            refine GT_skip rfl rfl rfl rfl rfl (by decide) rfl rfl ?_
            refine GT_skip rfl rfl rfl rfl rfl (by decide) rfl rfl ?_
            refine GT_skip rfl rfl rfl rfl rfl (by decide) rfl rfl ?_
            refine GT_skip rfl rfl rfl rfl rfl (by decide) rfl rfl ?_
            refine GT_skip rfl rfl rfl rfl rfl (by decide) rfl rfl ?_
            refine GT_st rfl rfl rfl rfl (V_pick_f rfl rfl rfl) ?_
            refine GT_nil ?_
            refine GE_cond_f rfl ?_
            refine GE_skip ?_
            refine GE_seq ?_
            refine GE_slots (L' := [(3, _)]) ⟨rfl, trivial⟩ ?_
            refine GE_plain (.st 0 (.st 1 .nil)) rfl ?_
            refine GT_st rfl rfl rfl rfl (V_move rfl rfl) ?_
            refine GT_st rfl rfl rfl rfl (V_assign rfl rfl) ?_
            refine GT_nil ?_
            refine GE_ret Tryz.func25 rfl (fun w hw => ⟨?_, hw.nil⟩)
            refine congrArg I ?_; first | (rw [hfin]; simp_all; done) | (rw [lErr, if_pos (by omega)])
      · exact ⟨Nat.zero_le _, fun i hi => absurd hi (Nat.not_lt_zero _), .inl ⟨rfl, fun i hi => absurd hi (Nat.not_lt_zero _)⟩, rfl, fun e he => by cases he⟩
end
end Go.Proofs.YtdcjgjopmicidaaGreatDoor
/- Parts and programmes: which are valid, walked. -/
namespace Go.Proofs.YtdcjgjopmicidaaGreatDoor
open Go.Sx Go.Proofs Go.RowKit

section
variable {w : World} {A A2 : Option Addr} {c c2 : Nat}
set_option maxRecDepth 10000 in
theorem C_good {l : List Tk} {x : Prt} {g : Nat} {X Y : Value} (h : Tks w A l) (hg : BlkAt w g [.slice A l.length c, X, Y] 101) :
    Con0 Tryz.prog 60 [ptr g 0, .agg #[I x.tk, I x.fr, I x.to, I x.gap, I x.inn, I x.out, I x.lev]] w (.bool (goodP l x)) := by
  have hd : ∀ q : Bool, (((0 ≤ x.tk ∧ x.tk < (l.length : Int)) ∧ 0 ≤ x.fr ∧ x.fr < x.to ∧ x.to ≤ ((tkOf l x).data.length : Int) ∧ betw x.gap (-4096) 4096 = true ∧ betw x.inn 0 1000 = true ∧ betw x.out 0 1000 = true ∧ betw x.lev 0 4000 = true) ↔ q = true) → Value.bool q = Value.bool (goodP l x) := fun q hq => congrArg Value.bool (by rw [Bool.eq_iff_iff, ← hq, goodP]; simp only [Bool.and_eq_true, decide_eq_true_iff]; simp only [and_assoc])
  refine Ret_of (vs := [_, _]) hm none' Tryz.func60 rfl Tryz.ntmps60 rfl ?_
  dsimp only [slotsOf]
  refine GE_seq ?_
  refine GE_plain (.ld 0 [] (.st 1 .nil)) rfl ?_
  refine GT_box (z := [_, _, _, _, _, _, _]) rfl rfl rfl rfl rfl rfl rfl (fun _ => GR_nil) (fun b3 => ?_)
  refine GT_st rfl rfl rfl rfl (V_assign rfl rfl) ?_
  refine GT_nil ?_
  refine GE_seq ?_
  refine GE_seq ?_
  refine GE_drawn (.st 0 (.st 1 (.st 2 (.st 3 (.st 4 (.st 5 (.st 6 (.st 7 (.st 8 (.st 9 (.st 10 (.st 11 (.st 12 (.st 13 (.st 14 (.st 15 (.st 16 (.st 17 (.st 18 (.st 19 (.st 20 (.st 21 (.st 22 (.st 23 (.st 24 (.st 25 (.st 26 (.st 27 (.st 28 (.st 29 (.st 30 (.st 31 (.st 32 (.st 33 (.st 34 (.st 35 (.st 36 (.st 37 (.st 38 (.st 39 .nil)))))))))))))))))))))))))))))))))))))))) [] (by decide +kernel) ?_
  first | refine GT_st rfl rfl rfl rfl (V_field rfl rfl fo_59_0) ?_ | refine GT_st rfl rfl rfl rfl (V_fieldA rfl rfl fo_59_0) ?_
  refine GT_st rfl rfl rfl rfl (V_load rfl rfl ag_3 (CellAt.item rfl)) ?_
  refine GT_st rfl rfl rfl rfl (V_lss rfl rfl rfl) ?_
  refine GT_st rfl rfl rfl rfl (V_move rfl rfl) ?_
  first | refine GT_splitNot (d := 8) rfl (fun h1 => ?_) (fun h1 => ?_) | refine GT_split (d := 8) rfl (fun h1 => ?_) (fun h1 => ?_) | refine GT_splitNotB (d := 8) rfl (fun h1 => ?_) (fun h1 => ?_) | refine GT_splitB (d := 8) rfl (fun h1 => ?_) (fun h1 => ?_)
  · skip
    refine GT_skip rfl rfl rfl rfl rfl (by decide) rfl rfl ?_
    refine GT_skip rfl rfl rfl rfl rfl (by decide) rfl rfl ?_
    refine GT_skip rfl rfl rfl rfl rfl (by decide) rfl rfl ?_
    refine GT_skip rfl rfl rfl rfl rfl (by decide) rfl rfl ?_
    refine GT_skip rfl rfl rfl rfl rfl (by decide) rfl rfl ?_
    refine GT_skip rfl rfl rfl rfl rfl (by decide) rfl rfl ?_
    refine GT_skip rfl rfl rfl rfl rfl (by decide) rfl rfl ?_
    refine GT_skip rfl rfl rfl rfl rfl (by decide) rfl rfl ?_
    refine GT_st rfl rfl rfl rfl (V_pick_t rfl rfl rfl) ?_
    refine GT_st rfl rfl rfl rfl (V_move rfl rfl) ?_
    refine GT_skip rfl rfl rfl rfl rfl (by decide) rfl rfl ?_
    refine GT_skip rfl rfl rfl rfl rfl (by decide) rfl rfl ?_
    refine GT_skip rfl rfl rfl rfl rfl (by decide) rfl rfl ?_
    refine GT_st rfl rfl rfl rfl (V_pick_t rfl rfl rfl) ?_
    refine GT_st rfl rfl rfl rfl (V_move rfl rfl) ?_
    refine GT_skip rfl rfl rfl rfl rfl (by decide) rfl rfl ?_
    refine GT_skip rfl rfl rfl rfl rfl (by decide) rfl rfl ?_
    refine GT_skip rfl rfl rfl rfl rfl (by decide) rfl rfl ?_
    refine GT_skip rfl rfl rfl rfl rfl (by decide) rfl rfl ?_
    refine GT_skip rfl rfl rfl rfl rfl (by decide) rfl rfl ?_
    refine GT_st rfl rfl rfl rfl (V_pick_t rfl rfl rfl) ?_
    refine GT_st rfl rfl rfl rfl (V_move rfl rfl) ?_
    refine GT_skip rfl rfl rfl rfl rfl (by decide) rfl rfl ?_
    refine GT_skip rfl rfl rfl rfl rfl (by decide) rfl rfl ?_
    refine GT_skip rfl rfl rfl rfl rfl (by decide) rfl rfl ?_
    refine GT_skip rfl rfl rfl rfl rfl (by decide) rfl rfl ?_
    refine GT_skip rfl rfl rfl rfl rfl (by decide) rfl rfl ?_
    refine GT_skip rfl rfl rfl rfl rfl (by decide) rfl rfl ?_
    refine GT_skip rfl rfl rfl rfl rfl (by decide) rfl rfl ?_
    refine GT_skip rfl rfl rfl rfl rfl (by decide) rfl rfl ?_
    refine GT_skip rfl rfl rfl rfl rfl (by decide) rfl rfl ?_
    refine GT_skip rfl rfl rfl rfl rfl (by decide) rfl rfl ?_
    refine GT_skip rfl rfl rfl rfl rfl (by decide) rfl rfl ?_
    refine GT_skip rfl rfl rfl rfl rfl (by decide) rfl rfl ?_
    refine GT_skip rfl rfl rfl rfl rfl (by decide) rfl rfl ?_
    refine GT_st rfl rfl rfl rfl (V_pick_t rfl rfl rfl) ?_
    refine GT_nil ?_
    refine GE_cond_t rfl ?_
    refine GE_seq ?_
    refine GE_slots (L' := []) trivial ?_
    refine GE_plain (.st 0 .nil) rfl ?_
    refine GT_st rfl rfl rfl rfl (V_assign rfl rfl) ?_
    refine GT_nil ?_
    refine GE_ret Tryz.func60 rfl (fun w hw => ⟨?_, hw.nil⟩)
    refine hd _ ?_; first | exact ⟨fun ⟨⟨a1, a2⟩, a3, a4, a5, a6, a7, a8, a9⟩ => (by first | omega | (unfold tkOf at a5; omega) | exact absurd (h6.symm.trans a6) (by decide) | exact absurd (h7.symm.trans a7) (by decide) | exact absurd (h8.symm.trans a8) (by decide)), fun a => by cases a⟩ | exact ⟨fun a => a.2.2.2.2.2.2.2, fun a => ⟨⟨by omega, by omega⟩, by omega, by omega, by unfold tkOf; omega, h6, h7, h8, a⟩⟩
  · skip
    first | refine GT_st_g rfl rfl rfl rfl rfl rfl rfl (V_field rfl rfl fo_59_0) ?_ | refine GT_st_g rfl rfl rfl rfl rfl rfl rfl (V_fieldA rfl rfl fo_59_0) ?_
    refine GT_st_g rfl rfl rfl rfl rfl rfl rfl (V_load rfl rfl ag_3 (CellAt.item rfl)) ?_
    refine GT_st_g rfl rfl rfl rfl rfl rfl rfl (V_move rfl rfl) ?_
    first | refine GT_st_g rfl rfl rfl rfl rfl rfl rfl (V_nilCheck rfl rfl) ?_ | refine GT_st_g rfl rfl rfl rfl rfl rfl rfl (V_nilCheck_func rfl rfl) ?_ | refine GT_st_g rfl rfl rfl rfl rfl rfl rfl (V_nilCheck_yield rfl rfl) ?_
    first | refine GT_st_g rfl rfl rfl rfl rfl rfl rfl (V_field rfl rfl fo_101_0) ?_ | refine GT_st_g rfl rfl rfl rfl rfl rfl rfl (V_fieldA rfl rfl fo_101_0) ?_
    refine GT_st_g rfl rfl rfl rfl rfl rfl rfl (V_load rfl rfl ag_22 (.old (hg.cell rfl) (noM _))) ?_
    refine GT_st_g rfl rfl rfl rfl rfl rfl rfl (V_len rfl Tryz.underlying22 rfl) ?_
    refine GT_st_g rfl rfl rfl rfl rfl rfl rfl (V_geq rfl rfl rfl) ?_
    refine GT_st rfl rfl rfl rfl (V_pick_f rfl rfl rfl) ?_
    refine GT_st rfl rfl rfl rfl (V_move rfl rfl) ?_
    first | refine GT_splitNot (d := 18) rfl (fun h2 => ?_) (fun h2 => ?_) | refine GT_split (d := 18) rfl (fun h2 => ?_) (fun h2 => ?_) | refine GT_splitNotB (d := 18) rfl (fun h2 => ?_) (fun h2 => ?_) | refine GT_splitB (d := 18) rfl (fun h2 => ?_) (fun h2 => ?_)
    · skip
      refine GT_skip rfl rfl rfl rfl rfl (by decide) rfl rfl ?_
      refine GT_skip rfl rfl rfl rfl rfl (by decide) rfl rfl ?_
      refine GT_skip rfl rfl rfl rfl rfl (by decide) rfl rfl ?_
      refine GT_st rfl rfl rfl rfl (V_pick_t rfl rfl rfl) ?_
      refine GT_st rfl rfl rfl rfl (V_move rfl rfl) ?_
      refine GT_skip rfl rfl rfl rfl rfl (by decide) rfl rfl ?_
      refine GT_skip rfl rfl rfl rfl rfl (by decide) rfl rfl ?_
      refine GT_skip rfl rfl rfl rfl rfl (by decide) rfl rfl ?_
      refine GT_skip rfl rfl rfl rfl rfl (by decide) rfl rfl ?_
      refine GT_skip rfl rfl rfl rfl rfl (by decide) rfl rfl ?_
      refine GT_st rfl rfl rfl rfl (V_pick_t rfl rfl rfl) ?_
      refine GT_st rfl rfl rfl rfl (V_move rfl rfl) ?_
      refine GT_skip rfl rfl rfl rfl rfl (by decide) rfl rfl ?_
      refine GT_skip rfl rfl rfl rfl rfl (by decide) rfl rfl ?_
      refine GT_skip rfl rfl rfl rfl rfl (by decide) rfl rfl ?_
      refine GT_skip rfl rfl rfl rfl rfl (by decide) rfl rfl ?_
      refine GT_skip rfl rfl rfl rfl rfl (by decide) rfl rfl ?_
      refine GT_skip rfl rfl rfl rfl rfl (by decide) rfl rfl ?_
      refine GT_skip rfl rfl rfl rfl rfl (by decide) rfl rfl ?_
      refine GT_skip rfl rfl rfl rfl rfl (by decide) rfl rfl ?_
      refine GT_skip rfl rfl rfl rfl rfl (by decide) rfl rfl ?_
      refine GT_skip rfl rfl rfl rfl rfl (by decide) rfl rfl ?_
      refine GT_skip rfl rfl rfl rfl rfl (by decide) rfl rfl ?_
      refine GT_skip rfl rfl rfl rfl rfl (by decide) rfl rfl ?_
      refine GT_skip rfl rfl rfl rfl rfl (by decide) rfl rfl ?_
      refine GT_st rfl rfl rfl rfl (V_pick_t rfl rfl rfl) ?_
      refine GT_nil ?_
      refine GE_cond_t rfl ?_
      refine GE_seq ?_
      refine GE_slots (L' := []) trivial ?_
      refine GE_plain (.st 0 .nil) rfl ?_
      refine GT_st rfl rfl rfl rfl (V_assign rfl rfl) ?_
      refine GT_nil ?_
      refine GE_ret Tryz.func60 rfl (fun w hw => ⟨?_, hw.nil⟩)
      refine hd _ ?_; first | exact ⟨fun ⟨⟨a1, a2⟩, a3, a4, a5, a6, a7, a8, a9⟩ => (by first | omega | (unfold tkOf at a5; omega) | exact absurd (h6.symm.trans a6) (by decide) | exact absurd (h7.symm.trans a7) (by decide) | exact absurd (h8.symm.trans a8) (by decide)), fun a => by cases a⟩ | exact ⟨fun a => a.2.2.2.2.2.2.2, fun a => ⟨⟨by omega, by omega⟩, by omega, by omega, by unfold tkOf; omega, h6, h7, h8, a⟩⟩
    · skip
      first | refine GT_st_g rfl rfl rfl rfl rfl rfl rfl (V_field rfl rfl fo_59_1) ?_ | refine GT_st_g rfl rfl rfl rfl rfl rfl rfl (V_fieldA rfl rfl fo_59_1) ?_
      refine GT_st_g rfl rfl rfl rfl rfl rfl rfl (V_load rfl rfl ag_3 (CellAt.item rfl)) ?_
      refine GT_st_g rfl rfl rfl rfl rfl rfl rfl (V_lss rfl rfl rfl) ?_
      refine GT_st rfl rfl rfl rfl (V_pick_f rfl rfl rfl) ?_
      refine GT_st rfl rfl rfl rfl (V_move rfl rfl) ?_
      first | refine GT_splitNot (d := 23) rfl (fun h3 => ?_) (fun h3 => ?_) | refine GT_split (d := 23) rfl (fun h3 => ?_) (fun h3 => ?_) | refine GT_splitNotB (d := 23) rfl (fun h3 => ?_) (fun h3 => ?_) | refine GT_splitB (d := 23) rfl (fun h3 => ?_) (fun h3 => ?_)
      · skip
        refine GT_skip rfl rfl rfl rfl rfl (by decide) rfl rfl ?_
        refine GT_skip rfl rfl rfl rfl rfl (by decide) rfl rfl ?_
        refine GT_skip rfl rfl rfl rfl rfl (by decide) rfl rfl ?_
        refine GT_skip rfl rfl rfl rfl rfl (by decide) rfl rfl ?_
        refine GT_skip rfl rfl rfl rfl rfl (by decide) rfl rfl ?_
        refine GT_st rfl rfl rfl rfl (V_pick_t rfl rfl rfl) ?_
        refine GT_st rfl rfl rfl rfl (V_move rfl rfl) ?_
        refine GT_skip rfl rfl rfl rfl rfl (by decide) rfl rfl ?_
        refine GT_skip rfl rfl rfl rfl rfl (by decide) rfl rfl ?_
        refine GT_skip rfl rfl rfl rfl rfl (by decide) rfl rfl ?_
        refine GT_skip rfl rfl rfl rfl rfl (by decide) rfl rfl ?_
        refine GT_skip rfl rfl rfl rfl rfl (by decide) rfl rfl ?_
        refine GT_skip rfl rfl rfl rfl rfl (by decide) rfl rfl ?_
        refine GT_skip rfl rfl rfl rfl rfl (by decide) rfl rfl ?_
        refine GT_skip rfl rfl rfl rfl rfl (by decide) rfl rfl ?_
        refine GT_skip rfl rfl rfl rfl rfl (by decide) rfl rfl ?_
        refine GT_skip rfl rfl rfl rfl rfl (by decide) rfl rfl ?_
        refine GT_skip rfl rfl rfl rfl rfl (by decide) rfl rfl ?_
        refine GT_skip rfl rfl rfl rfl rfl (by decide) rfl rfl ?_
        refine GT_skip rfl rfl rfl rfl rfl (by decide) rfl rfl ?_
        refine GT_st rfl rfl rfl rfl (V_pick_t rfl rfl rfl) ?_
        refine GT_nil ?_
        refine GE_cond_t rfl ?_
        refine GE_seq ?_
        refine GE_slots (L' := []) trivial ?_
        refine GE_plain (.st 0 .nil) rfl ?_
        refine GT_st rfl rfl rfl rfl (V_assign rfl rfl) ?_
        refine GT_nil ?_
        refine GE_ret Tryz.func60 rfl (fun w hw => ⟨?_, hw.nil⟩)
        refine hd _ ?_; first | exact ⟨fun ⟨⟨a1, a2⟩, a3, a4, a5, a6, a7, a8, a9⟩ => (by first | omega | (unfold tkOf at a5; omega) | exact absurd (h6.symm.trans a6) (by decide) | exact absurd (h7.symm.trans a7) (by decide) | exact absurd (h8.symm.trans a8) (by decide)), fun a => by cases a⟩ | exact ⟨fun a => a.2.2.2.2.2.2.2, fun a => ⟨⟨by omega, by omega⟩, by omega, by omega, by unfold tkOf; omega, h6, h7, h8, a⟩⟩
      · skip
        first | refine GT_st_g rfl rfl rfl rfl rfl rfl rfl (V_field rfl rfl fo_59_1) ?_ | refine GT_st_g rfl rfl rfl rfl rfl rfl rfl (V_fieldA rfl rfl fo_59_1) ?_
        refine GT_st_g rfl rfl rfl rfl rfl rfl rfl (V_load rfl rfl ag_3 (CellAt.item rfl)) ?_
        first | refine GT_st_g rfl rfl rfl rfl rfl rfl rfl (V_field rfl rfl fo_59_2) ?_ | refine GT_st_g rfl rfl rfl rfl rfl rfl rfl (V_fieldA rfl rfl fo_59_2) ?_
        refine GT_st_g rfl rfl rfl rfl rfl rfl rfl (V_load rfl rfl ag_3 (CellAt.item rfl)) ?_
        refine GT_st_g rfl rfl rfl rfl rfl rfl rfl (V_geq rfl rfl rfl) ?_
        refine GT_st rfl rfl rfl rfl (V_pick_f rfl rfl rfl) ?_
        refine GT_st rfl rfl rfl rfl (V_move rfl rfl) ?_
        first | refine GT_splitNot (d := 30) rfl (fun h4 => ?_) (fun h4 => ?_) | refine GT_split (d := 30) rfl (fun h4 => ?_) (fun h4 => ?_) | refine GT_splitNotB (d := 30) rfl (fun h4 => ?_) (fun h4 => ?_) | refine GT_splitB (d := 30) rfl (fun h4 => ?_) (fun h4 => ?_)
        · skip
          refine GT_skip rfl rfl rfl rfl rfl (by decide) rfl rfl ?_
          refine GT_skip rfl rfl rfl rfl rfl (by decide) rfl rfl ?_
          refine GT_skip rfl rfl rfl rfl rfl (by decide) rfl rfl ?_
          refine GT_skip rfl rfl rfl rfl rfl (by decide) rfl rfl ?_
          refine GT_skip rfl rfl rfl rfl rfl (by decide) rfl rfl ?_
          refine GT_skip rfl rfl rfl rfl rfl (by decide) rfl rfl ?_
          refine GT_skip rfl rfl rfl rfl rfl (by decide) rfl rfl ?_
          refine GT_skip rfl rfl rfl rfl rfl (by decide) rfl rfl ?_
          refine GT_skip rfl rfl rfl rfl rfl (by decide) rfl rfl ?_
          refine GT_skip rfl rfl rfl rfl rfl (by decide) rfl rfl ?_
          refine GT_skip rfl rfl rfl rfl rfl (by decide) rfl rfl ?_
          refine GT_skip rfl rfl rfl rfl rfl (by decide) rfl rfl ?_
          refine GT_skip rfl rfl rfl rfl rfl (by decide) rfl rfl ?_
          refine GT_st rfl rfl rfl rfl (V_pick_t rfl rfl rfl) ?_
          refine GT_nil ?_
          refine GE_cond_t rfl ?_
          refine GE_seq ?_
          refine GE_slots (L' := []) trivial ?_
          refine GE_plain (.st 0 .nil) rfl ?_
          refine GT_st rfl rfl rfl rfl (V_assign rfl rfl) ?_
          refine GT_nil ?_
          refine GE_ret Tryz.func60 rfl (fun w hw => ⟨?_, hw.nil⟩)
          refine hd _ ?_; first | exact ⟨fun ⟨⟨a1, a2⟩, a3, a4, a5, a6, a7, a8, a9⟩ => (by first | omega | (unfold tkOf at a5; omega) | exact absurd (h6.symm.trans a6) (by decide) | exact absurd (h7.symm.trans a7) (by decide) | exact absurd (h8.symm.trans a8) (by decide)), fun a => by cases a⟩ | exact ⟨fun a => a.2.2.2.2.2.2.2, fun a => ⟨⟨by omega, by omega⟩, by omega, by omega, by unfold tkOf; omega, h6, h7, h8, a⟩⟩
        · have hk : x.tk.toNat < l.length := (by omega)
          first | refine GT_st_g rfl rfl rfl rfl rfl rfl rfl (V_field rfl rfl fo_59_2) ?_ | refine GT_st_g rfl rfl rfl rfl rfl rfl rfl (V_fieldA rfl rfl fo_59_2) ?_
          refine GT_st_g rfl rfl rfl rfl rfl rfl rfl (V_load rfl rfl ag_3 (CellAt.item rfl)) ?_
          refine GT_st_g rfl rfl rfl rfl rfl rfl rfl (V_move rfl rfl) ?_
          first | refine GT_st_g rfl rfl rfl rfl rfl rfl rfl (V_nilCheck rfl rfl) ?_ | refine GT_st_g rfl rfl rfl rfl rfl rfl rfl (V_nilCheck_func rfl rfl) ?_ | refine GT_st_g rfl rfl rfl rfl rfl rfl rfl (V_nilCheck_yield rfl rfl) ?_
          first | refine GT_st_g rfl rfl rfl rfl rfl rfl rfl (V_field rfl rfl fo_101_0) ?_ | refine GT_st_g rfl rfl rfl rfl rfl rfl rfl (V_fieldA rfl rfl fo_101_0) ?_
          refine GT_st_g rfl rfl rfl rfl rfl rfl rfl (V_load rfl rfl ag_22 (.old (hg.cell rfl) (noM _))) ?_
          first | refine GT_st_g rfl rfl rfl rfl rfl rfl rfl (V_field rfl rfl fo_59_0) ?_ | refine GT_st_g rfl rfl rfl rfl rfl rfl rfl (V_fieldA rfl rfl fo_59_0) ?_
          refine GT_st_g rfl rfl rfl rfl rfl rfl rfl (V_load rfl rfl ag_3 (CellAt.item rfl)) ?_
          refine GT_st_g rfl rfl rfl rfl rfl rfl rfl (V_index rfl rfl rfl Tryz.underlying22 sz_39 (k := x.tk.toNat) (by omega) hk (h.1.isSome hk)) ?_
          first | refine GT_st_g rfl rfl rfl rfl rfl rfl rfl (V_field rfl rfl fo_39_1) ?_ | refine GT_st_g rfl rfl rfl rfl rfl rfl rfl (V_fieldA rfl rfl fo_39_1) ?_
          refine GT_st_g rfl rfl rfl rfl rfl rfl rfl (V_load rfl rfl ag_37 (h.1.at1 noM hk rfl)) ?_
          refine GT_st_g rfl rfl rfl rfl rfl rfl rfl (V_len rfl Tryz.underlying37 rfl) ?_
          refine GT_st_g rfl rfl rfl rfl rfl rfl rfl (V_gtr rfl rfl rfl) ?_
          refine GT_st rfl rfl rfl rfl (V_pick_f rfl rfl rfl) ?_
          refine GT_nil ?_
          first | refine GE_condNot rfl (fun h5 => ?_) (fun h5 => ?_) | refine GE_cond rfl (fun h5 => ?_) (fun h5 => ?_) | refine GE_condNotB rfl (fun h5 => ?_) (fun h5 => ?_) | refine GE_condB rfl (fun h5 => ?_) (fun h5 => ?_)
          · skip
            refine GE_seq ?_
            refine GE_slots (L' := []) trivial ?_
            refine GE_plain (.st 0 .nil) rfl ?_
            refine GT_st rfl rfl rfl rfl (V_assign rfl rfl) ?_
            refine GT_nil ?_
            refine GE_ret Tryz.func60 rfl (fun w hw => ⟨?_, hw.nil⟩)
            refine hd _ ?_; first | exact ⟨fun ⟨⟨a1, a2⟩, a3, a4, a5, a6, a7, a8, a9⟩ => (by first | omega | (unfold tkOf at a5; omega) | exact absurd (h6.symm.trans a6) (by decide) | exact absurd (h7.symm.trans a7) (by decide) | exact absurd (h8.symm.trans a8) (by decide)), fun a => by cases a⟩ | exact ⟨fun a => a.2.2.2.2.2.2.2, fun a => ⟨⟨by omega, by omega⟩, by omega, by omega, by unfold tkOf; omega, h6, h7, h8, a⟩⟩
          · skip
            refine GE_skip ?_
            refine GE_seq ?_
            refine GE_slots (L' := [(3, _)]) ⟨rfl, trivial⟩ ?_
            refine GE_plain (.st 0 (.st 1 (.ld 2 [] (.st 3 (.st 4 (.st 5 (.ld 6 [] (.st 7 (.st 8 (.st 9 (.st 10 (.ld 11 [] (.st 12 (.st 13 (.st 14 (.st 15 (.ld 16 [] (.st 17 (.st 18 .nil))))))))))))))))))) rfl ?_
            first | refine GT_st rfl rfl rfl rfl (V_field rfl rfl fo_59_3) ?_ | refine GT_st rfl rfl rfl rfl (V_fieldA rfl rfl fo_59_3) ?_
            refine GT_st rfl rfl rfl rfl (V_load rfl rfl ag_3 (CellAt.item rfl)) ?_
            refine GT_call0 rfl rfl rfl rfl rfl rfl rfl rfl rn_43 (fun w hw => C_between) (GR_nil) ?_
            refine GT_st rfl rfl rfl rfl (V_move rfl rfl) ?_
            first | refine GT_splitNot (d := 48) rfl (fun h6 => ?_) (fun h6 => ?_) | refine GT_split (d := 48) rfl (fun h6 => ?_) (fun h6 => ?_) | refine GT_splitNotB (d := 48) rfl (fun h6 => ?_) (fun h6 => ?_) | refine GT_splitB (d := 48) rfl (fun h6 => ?_) (fun h6 => ?_)
            · skip
              first | refine GT_st_g rfl rfl rfl rfl rfl rfl rfl (V_field rfl rfl fo_59_4) ?_ | refine GT_st_g rfl rfl rfl rfl rfl rfl rfl (V_fieldA rfl rfl fo_59_4) ?_
              refine GT_st_g rfl rfl rfl rfl rfl rfl rfl (V_load rfl rfl ag_3 (CellAt.item rfl)) ?_
              refine GT_call0_g rfl rfl rfl rfl rfl rfl rfl rfl rfl rfl rfl rn_43 (fun w hw => C_between) (GR_nil) ?_
              refine GT_st rfl rfl rfl rfl (V_pick_t rfl rfl rfl) ?_
              refine GT_st rfl rfl rfl rfl (V_move rfl rfl) ?_
              first | refine GT_splitNot (d := 53) rfl (fun h7 => ?_) (fun h7 => ?_) | refine GT_split (d := 53) rfl (fun h7 => ?_) (fun h7 => ?_) | refine GT_splitNotB (d := 53) rfl (fun h7 => ?_) (fun h7 => ?_) | refine GT_splitB (d := 53) rfl (fun h7 => ?_) (fun h7 => ?_)
              · skip
                first | refine GT_st_g rfl rfl rfl rfl rfl rfl rfl (V_field rfl rfl fo_59_5) ?_ | refine GT_st_g rfl rfl rfl rfl rfl rfl rfl (V_fieldA rfl rfl fo_59_5) ?_
                refine GT_st_g rfl rfl rfl rfl rfl rfl rfl (V_load rfl rfl ag_3 (CellAt.item rfl)) ?_
                refine GT_call0_g rfl rfl rfl rfl rfl rfl rfl rfl rfl rfl rfl rn_43 (fun w hw => C_between) (GR_nil) ?_
                refine GT_st rfl rfl rfl rfl (V_pick_t rfl rfl rfl) ?_
                refine GT_st rfl rfl rfl rfl (V_move rfl rfl) ?_
                first | refine GT_splitNot (d := 58) rfl (fun h8 => ?_) (fun h8 => ?_) | refine GT_split (d := 58) rfl (fun h8 => ?_) (fun h8 => ?_) | refine GT_splitNotB (d := 58) rfl (fun h8 => ?_) (fun h8 => ?_) | refine GT_splitB (d := 58) rfl (fun h8 => ?_) (fun h8 => ?_)
                · skip
                  first | refine GT_st_g rfl rfl rfl rfl rfl rfl rfl (V_field rfl rfl fo_59_6) ?_ | refine GT_st_g rfl rfl rfl rfl rfl rfl rfl (V_fieldA rfl rfl fo_59_6) ?_
                  refine GT_st_g rfl rfl rfl rfl rfl rfl rfl (V_load rfl rfl ag_2 (CellAt.item rfl)) ?_
                  refine GT_call0_g rfl rfl rfl rfl rfl rfl rfl rfl rfl rfl rfl rn_43 (fun w hw => C_between) (GR_nil) ?_
                  refine GT_st rfl rfl rfl rfl (V_pick_t rfl rfl rfl) ?_
                  refine GT_st rfl rfl rfl rfl (V_assign rfl rfl) ?_
                  refine GT_nil ?_
                  refine GE_ret Tryz.func60 rfl (fun w hw => ⟨?_, hw.nil⟩)
                  refine hd _ ?_; first | exact ⟨fun ⟨⟨a1, a2⟩, a3, a4, a5, a6, a7, a8, a9⟩ => (by first | omega | (unfold tkOf at a5; omega) | exact absurd (h6.symm.trans a6) (by decide) | exact absurd (h7.symm.trans a7) (by decide) | exact absurd (h8.symm.trans a8) (by decide)), fun a => by cases a⟩ | exact ⟨fun a => a.2.2.2.2.2.2.2, fun a => ⟨⟨by omega, by omega⟩, by omega, by omega, by unfold tkOf; omega, h6, h7, h8, a⟩⟩
                · skip
                  refine GT_skip rfl rfl rfl rfl rfl (by decide) rfl rfl ?_
                  refine GT_skip rfl rfl rfl rfl rfl (by decide) rfl rfl ?_
                  refine GT_skip_ld rfl rfl rfl rfl rfl (by decide) rfl rfl rfl (GR_nil) ?_
                  refine GT_st rfl rfl rfl rfl (V_pick_f rfl rfl rfl) ?_
                  refine GT_st rfl rfl rfl rfl (V_assign rfl rfl) ?_
                  refine GT_nil ?_
                  refine GE_ret Tryz.func60 rfl (fun w hw => ⟨?_, hw.nil⟩)
                  refine hd _ ?_; first | exact ⟨fun ⟨⟨a1, a2⟩, a3, a4, a5, a6, a7, a8, a9⟩ => (by first | omega | (unfold tkOf at a5; omega) | exact absurd (h6.symm.trans a6) (by decide) | exact absurd (h7.symm.trans a7) (by decide) | exact absurd (h8.symm.trans a8) (by decide)), fun a => by cases a⟩ | exact ⟨fun a => a.2.2.2.2.2.2.2, fun a => ⟨⟨by omega, by omega⟩, by omega, by omega, by unfold tkOf; omega, h6, h7, h8, a⟩⟩
              · skip
                refine GT_skip rfl rfl rfl rfl rfl (by decide) rfl rfl ?_
                refine GT_skip rfl rfl rfl rfl rfl (by decide) rfl rfl ?_
                refine GT_skip_ld rfl rfl rfl rfl rfl (by decide) rfl rfl rfl (GR_nil) ?_
                refine GT_st rfl rfl rfl rfl (V_pick_f rfl rfl rfl) ?_
                refine GT_st rfl rfl rfl rfl (V_move rfl rfl) ?_
                refine GT_skip rfl rfl rfl rfl rfl (by decide) rfl rfl ?_
                refine GT_skip rfl rfl rfl rfl rfl (by decide) rfl rfl ?_
                refine GT_skip_ld rfl rfl rfl rfl rfl (by decide) rfl rfl rfl (GR_nil) ?_
                refine GT_st rfl rfl rfl rfl (V_pick_f rfl rfl rfl) ?_
                refine GT_st rfl rfl rfl rfl (V_assign rfl rfl) ?_
                refine GT_nil ?_
                refine GE_ret Tryz.func60 rfl (fun w hw => ⟨?_, hw.nil⟩)
                refine hd _ ?_; first | exact ⟨fun ⟨⟨a1, a2⟩, a3, a4, a5, a6, a7, a8, a9⟩ => (by first | omega | (unfold tkOf at a5; omega) | exact absurd (h6.symm.trans a6) (by decide) | exact absurd (h7.symm.trans a7) (by decide) | exact absurd (h8.symm.trans a8) (by decide)), fun a => by cases a⟩ | exact ⟨fun a => a.2.2.2.2.2.2.2, fun a => ⟨⟨by omega, by omega⟩, by omega, by omega, by unfold tkOf; omega, h6, h7, h8, a⟩⟩
            · skip
              refine GT_skip rfl rfl rfl rfl rfl (by decide) rfl rfl ?_
              refine GT_skip rfl rfl rfl rfl rfl (by decide) rfl rfl ?_
              refine GT_skip_ld rfl rfl rfl rfl rfl (by decide) rfl rfl rfl (GR_nil) ?_
              refine GT_st rfl rfl rfl rfl (V_pick_f rfl rfl rfl) ?_
              refine GT_st rfl rfl rfl rfl (V_move rfl rfl) ?_
              refine GT_skip rfl rfl rfl rfl rfl (by decide) rfl rfl ?_
              refine GT_skip rfl rfl rfl rfl rfl (by decide) rfl rfl ?_
              refine GT_skip_ld rfl rfl rfl rfl rfl (by decide) rfl rfl rfl (GR_nil) ?_
              refine GT_st rfl rfl rfl rfl (V_pick_f rfl rfl rfl) ?_
              refine GT_st rfl rfl rfl rfl (V_move rfl rfl) ?_
              refine GT_skip rfl rfl rfl rfl rfl (by decide) rfl rfl ?_
              refine GT_skip rfl rfl rfl rfl rfl (by decide) rfl rfl ?_
              refine GT_skip_ld rfl rfl rfl rfl rfl (by decide) rfl rfl rfl (GR_nil) ?_
              refine GT_st rfl rfl rfl rfl (V_pick_f rfl rfl rfl) ?_
              refine GT_st rfl rfl rfl rfl (V_assign rfl rfl) ?_
              refine GT_nil ?_
              refine GE_ret Tryz.func60 rfl (fun w hw => ⟨?_, hw.nil⟩)
              refine hd _ ?_; first | exact ⟨fun ⟨⟨a1, a2⟩, a3, a4, a5, a6, a7, a8, a9⟩ => (by first | omega | (unfold tkOf at a5; omega) | exact absurd (h6.symm.trans a6) (by decide) | exact absurd (h7.symm.trans a7) (by decide) | exact absurd (h8.symm.trans a8) (by decide)), fun a => by cases a⟩ | exact ⟨fun a => a.2.2.2.2.2.2.2, fun a => ⟨⟨by omega, by omega⟩, by omega, by omega, by unfold tkOf; omega, h6, h7, h8, a⟩⟩
theorem fin_bd {l : List Tk} {p : List Prt} (hl : TksOk l) : ∀ k, k ≤ p.length → (∀ i, i < k → goodP l (pt p i) = true) → -8192 * (k : Int) ≤ fin (p.take k) ∧ fin (p.take k) ≤ 8192 * k := by
  intro k
  induction k with
  | zero => intro _ _; rw [List.take_zero]; exact ⟨by simp [fin], by simp [fin]⟩
  | succ k ih =>
    intro hk hg
    have h1 := ih (by omega) (fun i hi => hg i (by omega))
    have h2 := goodP_iff.1 (hg k (by omega))
    have h3 := h2.frto
    have h4 := h2.fr0
    have h5 := h2.to1
    have h6 := h2.gap
    have h7 : (tkOf l (pt p k)).data.length ≤ 4096 := by
      have a := h2.tk0; have b := h2.tk1
      exact (tErr_zero.1 (hl.each _ (getD_mem (i := (pt p k).tk.toNat) (by omega)))).1
    rw [fin_take (by omega)]
    unfold en bgn lng
    omega
def NewR (l : List Tk) (p : List Prt) (A : Option Addr) (c : Nat) (w : World) (v : Value) (w' : World) : Prop :=
  (gErr l p = 0 ∧ ∃ (b : Nat) (A' : Option Addr) (c' : Nat) (I' : Items), Own 10 103 ePlc (plcs p p.length) (.slice A' p.length c') I' ∧ v = .tuple #[ptr b 0, I 0] ∧ SH w none' ((b, blk [.slice A l.length c, .slice A' p.length c', I (fin p)] 101) :: I') w') ∨
  (gErr l p ≠ 0 ∧ v = .tuple #[.pointer none, I (gErr l p)] ∧ SH w none' [] w')
set_option maxRecDepth 10000 in
set_option maxHeartbeats 2000000 in
theorem C_new {l : List Tk} {p : List Prt} (h : Tks w A l) (hp : RdL w 7 ePrt A2 p) : Ret Tryz.prog 39 #[.slice A l.length c, .slice A2 p.length c2] w (NewR l p A c w) := by
  refine Ret_of (vs := [_, _]) hm none' Tryz.func39 rfl Tryz.ntmps39 rfl ?_
  dsimp only [slotsOf]
  refine GE_seq ?_
  refine GE_plain (.st 0 (.st 1 .nil)) rfl ?_
  refine GT_st rfl rfl rfl rfl (V_assign rfl rfl) ?_
  refine GT_st rfl rfl rfl rfl (V_assign rfl rfl) ?_
  refine GT_nil ?_
  refine GE_seq ?_
  refine GE_seq ?_
  refine GE_plain (.st 0 (.ld 1 [] (.st 2 .nil))) rfl ?_
  refine GT_st rfl rfl rfl rfl (V_move rfl rfl) ?_
  refine GT_call0 rfl rfl rfl rfl rfl rfl rfl rfl rn_25 (fun w hw => C_CheckTakes (h.sh hw)) (GR_nil) ?_
  refine GT_st rfl rfl rfl rfl (V_assign rfl rfl) ?_
  refine GT_nil ?_
  refine GE_seq ?_
  refine GE_slots (L' := [(0, _), (1, _), (6, _)]) ⟨rfl, rfl, rfl, trivial⟩ ?_
  refine GE_plain (.st 0 (.st 1 .nil)) rfl ?_
  refine GT_st rfl rfl rfl rfl (V_move rfl rfl) ?_
  refine GT_st rfl rfl rfl rfl (V_neq rfl rfl rfl) ?_
  refine GT_nil ?_
  first | refine GE_condNot rfl (fun h1 => ?_) (fun h1 => ?_) | refine GE_cond rfl (fun h1 => ?_) (fun h1 => ?_) | refine GE_condNotB rfl (fun h1 => ?_) (fun h1 => ?_) | refine GE_condB rfl (fun h1 => ?_) (fun h1 => ?_)
  · skip
    refine GE_seq ?_
    refine GE_slots (L' := [(6, _)]) ⟨rfl, trivial⟩ ?_
    refine GE_plain (.st 0 (.st 1 (.st 2 .nil))) rfl ?_
    refine GT_st rfl rfl rfl rfl (V_move rfl rfl) ?_
    refine GT_st rfl rfl rfl rfl (V_assign rfl rfl) ?_
    refine GT_st rfl rfl rfl rfl (V_assign rfl rfl) ?_
    refine GT_nil ?_
    refine GE_ret Tryz.func39 ⟨_, _, rfl, rfl, rfl⟩ (fun w hw => ?_)
    exact .inr ⟨by rw [gErr, if_neg h1]; exact h1, by rw [gErr, if_neg h1], hw.nil⟩
  · have hl := lErr_zero.1 h1
    refine GE_skip ?_
    refine GE_seq ?_
    refine GE_seq ?_
    refine GE_plain (.st 0 (.st 1 (.st 2 .nil))) rfl ?_
    refine GT_st rfl rfl rfl rfl (V_move rfl rfl) ?_
    refine GT_st rfl rfl rfl rfl (V_len rfl Tryz.underlying23 rfl) ?_
    refine GT_st rfl rfl rfl rfl (V_gtr rfl rfl rfl) ?_
    refine GT_nil ?_
    first | refine GE_condNot rfl (fun h2 => ?_) (fun h2 => ?_) | refine GE_cond rfl (fun h2 => ?_) (fun h2 => ?_) | refine GE_condNotB rfl (fun h2 => ?_) (fun h2 => ?_) | refine GE_condB rfl (fun h2 => ?_) (fun h2 => ?_)
    · skip
      refine GE_seq ?_
      refine GE_slots (L' := []) trivial ?_
      refine GE_plain (.st 0 (.st 1 .nil)) rfl ?_
      refine GT_st rfl rfl rfl rfl (V_assign rfl rfl) ?_
      refine GT_st rfl rfl rfl rfl (V_assign rfl rfl) ?_
      refine GT_nil ?_
      refine GE_ret Tryz.func39 ⟨_, _, rfl, rfl, rfl⟩ (fun w hw => ?_)
      have e : gErr l p = 6 := (by rw [gErr, if_pos h1, if_pos (by omega)]); exact .inr ⟨by omega, by rw [e], hw.nil⟩
    · have hp32 : p.length ≤ 32 := (by omega)
      refine GE_skip ?_
      refine GE_seq ?_
      refine GE_slots (L' := [(0, _), (1, _)]) ⟨rfl, rfl, trivial⟩ ?_
      refine GE_plain (.st 0 (.st 1 (.ld 2 [] (.st 3 .nil)))) rfl ?_
      refine GT_st rfl rfl rfl rfl (V_move rfl rfl) ?_
      refine GT_st rfl rfl rfl rfl (V_build (vs := [_, _, _]) rfl rfl zc_101 pl_101 sa_101 rfl) ?_
      refine GT_box (z := [_, _, _]) rfl rfl rfl rfl rfl rfl rfl (fun _ => GR_nil) (fun b24 => ?_)
      refine GT_st rfl rfl rfl rfl (V_assign rfl rfl) ?_
      refine GT_nil ?_
      refine GE_seq ?_
      refine GE_seq ?_
      refine GE_slots (L' := [(1, _), (7, _)]) ⟨rfl, rfl, trivial⟩ ?_
      refine GE_plain (.st 0 (.st 1 (.st 2 .nil))) rfl ?_
      refine GT_st rfl rfl rfl rfl (V_move rfl rfl) ?_
      refine GT_st rfl rfl rfl rfl (V_len rfl Tryz.underlying23 rfl) ?_
      refine GT_st rfl rfl rfl rfl (V_move rfl rfl) ?_
      refine GT_nil ?_
      refine GE_block ?_
      refine GE_to (GE_loop (ι := Nat × Option Addr × Nat × Items) (fun x => p.length - x.1) (fun x => [(7, ptr b24 0), (25, .slice A2 p.length c2), (26, I p.length), (27, I x.1)]) (fun x => (b24, blk [.slice A l.length c, .slice x.2.1 x.1 x.2.2.1, I (fin (p.take x.1))] 101) :: x.2.2.2) (fun x => x.1 ≤ p.length ∧ (∀ i, i < x.1 → goodP l (pt p i) = true) ∧ Own 10 103 ePlc (plcs p x.1) (.slice x.2.1 x.1 x.2.2.1) x.2.2.2) ?_ (0, none, 0, []) ?_) ⟨rfl, rfl, rfl, rfl, trivial⟩ (HS.cons rfl HS.nil)
      · rintro ⟨k, A', c', I'⟩ ⟨hk, hgd, hO⟩ ih; dsimp only at hk hgd hO ih ⊢; have hfb := fin_bd hl k hk hgd
        refine GE_seq ?_
        refine GE_plain (.st 0 .nil) rfl ?_
        refine GT_st rfl rfl rfl rfl (V_lss rfl rfl rfl) ?_
        refine GT_nil ?_
        refine GE_seq ?_
        first | refine GE_condNot rfl (fun h3 => ?_) (fun h3 => ?_) | refine GE_cond rfl (fun h3 => ?_) (fun h3 => ?_) | refine GE_condNotB rfl (fun h3 => ?_) (fun h3 => ?_) | refine GE_condB rfl (fun h3 => ?_) (fun h3 => ?_)
        · have hkl : k < p.length := (by omega)
          refine GE_skip ?_
          refine GE_seq ?_
          refine GE_block ?_
          refine GE_seq ?_
          refine GE_plain (.st 0 (.st 1 (.st 2 (.ld 3 [] (.st 4 (.ld 5 [] .nil)))))) rfl ?_
          refine GT_st rfl rfl rfl rfl (V_move rfl rfl) ?_
          refine GT_st rfl rfl rfl rfl (V_index rfl rfl rfl Tryz.underlying23 sz_59 (k := k) rfl hkl (hp.isSome hkl)) ?_
          refine GT_st rfl rfl rfl rfl (V_loadN (vs := [_, _, _, _, _, _, _]) rfl rfl ag_59 sz_59 rfl (show CellsAt _ _ _ (ePrt (pt p k)) from hp.ats noM hkl)) ?_
          refine GT_alloc rfl rfl rfl rfl rfl zc_59 (fun _ => GR_nil) (fun b9 => ?_)
          refine GT_st rfl rfl rfl rfl (V_assign rfl rfl) ?_
          refine GT_store (vs := [_, _, _, _, _, _, _]) (l' := [_, _, _, _, _, _, _]) rfl rfl rfl rfl rfl rfl rfl sz_59 rfl rfl (Nat.le_of_ble_eq_true rfl) rfl (GR_nil) ?_
          refine GT_nil ?_
          refine GE_seq ?_
          refine GE_seq ?_
          refine GE_slots (L' := [(7, _), (8, _), (9, _), (25, _), (26, _), (27, _)]) ⟨rfl, rfl, rfl, rfl, rfl, rfl, trivial⟩ ?_
          refine GE_plain (.st 0 (.st 1 (.ld 2 [] (.st 3 .nil)))) rfl ?_
          refine GT_st rfl rfl rfl rfl (V_move rfl rfl) ?_
          refine GT_st rfl rfl rfl rfl (V_loadN (vs := [_, _, _, _, _, _, _]) rfl rfl ag_59 sz_59 rfl (CellsAt.item rfl)) ?_
          refine GT_call0 rfl rfl rfl rfl rfl rfl rfl rfl rn_60 (fun w hw => C_good (x := pt p k) (h.sh hw) (BlkAt.of hw)) (GR_nil) ?_
          first | refine GT_st rfl rfl rfl rfl (V_not rfl rfl) ?_ | refine GT_st rfl rfl rfl rfl (V_notB rfl rfl) ?_
          refine GT_nil ?_
          first | refine GE_condNot rfl (fun h4 => ?_) (fun h4 => ?_) | refine GE_cond rfl (fun h4 => ?_) (fun h4 => ?_) | refine GE_condNotB rfl (fun h4 => ?_) (fun h4 => ?_) | refine GE_condB rfl (fun h4 => ?_) (fun h4 => ?_)
          · skip
            refine GE_seq ?_
            refine GE_slots (L' := []) trivial ?_
            refine GE_plain (.st 0 (.st 1 .nil)) rfl ?_
            refine GT_st rfl rfl rfl rfl (V_assign rfl rfl) ?_
            refine GT_st rfl rfl rfl rfl (V_assign rfl rfl) ?_
            refine GT_nil ?_
            refine GE_ret Tryz.func39 ⟨_, _, rfl, rfl, rfl⟩ (fun w hw => ?_)
            have e : gErr l p = 2 := (by rw [gErr, if_pos h1, if_neg (by omega), if_neg (by rw [all_split hkl h4]; decide)]); exact .inr ⟨by omega, by rw [e], hw.nil⟩
          · have hgk := goodP_iff.1 h4; have hfk := fin_bd hl (k + 1) hkl (fun i hi => by rcases Nat.lt_or_ge i k with r | r; exact hgd i r; rw [show i = k by omega]; exact h4); rw [fin_take hkl] at hfk; have hlk : en p k = bgn p k + lng (pt p k) := rfl; have hbk : bgn p k = fin (p.take k) + (pt p k).gap := rfl; have hnk : lng (pt p k) = (pt p k).to - (pt p k).fr := rfl; have hga := hgk.gap; have hfr0 := hgk.fr0; have hfrt := hgk.frto; have hto : (pt p k).to ≤ 4096 := (by have a := hgk.tk0; have b := hgk.tk1; have d := (tErr_zero.1 (hl.each _ (getD_mem (i := (pt p k).tk.toNat) (by omega)))).1; have e := hgk.to1; unfold tkOf at e; omega)
            refine GE_skip ?_
            refine GE_seq ?_
            refine GE_slots (L' := [(7, _), (8, _), (9, _), (25, _), (26, _), (27, _)]) ⟨rfl, rfl, rfl, rfl, rfl, rfl, trivial⟩ ?_
            refine GE_drawn (.st 0 (.st 1 (.st 2 (.st 3 (.st 4 (.st 5 (.st 6 (.st 7 (.st 8 (.st 9 (.ld 10 [0, 1, 2, 3, 4, 5, 6, 7, 8, 9] (.ld 11 [] .nil)))))))))))) [10, 11] (by decide +kernel) ?_
            refine GT_st rfl rfl rfl rfl (V_loadN (vs := [_, _, _, _, _, _, _]) rfl rfl ag_59 sz_59 rfl (CellsAt.item rfl)) ?_
            refine GT_st rfl rfl rfl rfl (V_move rfl rfl) ?_
            refine GT_st rfl rfl rfl rfl (V_move rfl rfl) ?_
            first | refine GT_st rfl rfl rfl rfl (V_nilCheck rfl rfl) ?_ | refine GT_st rfl rfl rfl rfl (V_nilCheck_func rfl rfl) ?_ | refine GT_st rfl rfl rfl rfl (V_nilCheck_yield rfl rfl) ?_
            first | refine GT_st rfl rfl rfl rfl (V_field rfl rfl fo_101_2) ?_ | refine GT_st rfl rfl rfl rfl (V_fieldA rfl rfl fo_101_2) ?_
            refine GT_st rfl rfl rfl rfl (V_load rfl rfl ag_3 (CellAt.item rfl)) ?_
            first | refine GT_st rfl rfl rfl rfl (V_field rfl rfl fo_59_3) ?_ | refine GT_st rfl rfl rfl rfl (V_fieldA rfl rfl fo_59_3) ?_
            refine GT_st rfl rfl rfl rfl (V_load rfl rfl ag_3 (CellAt.item rfl)) ?_
            refine GT_st rfl rfl rfl rfl (V_add rfl rfl rfl ((wrap_i64 (by omega)).trans (show _ = bgn p k from rfl))) ?_
            refine GT_st rfl rfl rfl rfl (V_build (vs := [_, _, _, _, _, _, _, _, _, _]) rfl rfl zc_103 pl_103 sa_103 rfl) ?_
            refine GT_alloc rfl rfl rfl rfl rfl zc_103 (fun _ => GR_cons rfl rfl rfl rfl (V_loadN (vs := [_, _, _, _, _, _, _]) rfl rfl ag_59 sz_59 rfl (CellsAt.item rfl)) (GR_cons rfl rfl rfl rfl (V_move rfl rfl) (GR_cons rfl rfl rfl rfl (V_move rfl rfl) (GR_cons rfl rfl rfl rfl ((by first | exact V_nilCheck rfl rfl | exact V_nilCheck_func rfl rfl | exact V_nilCheck_yield rfl rfl)) (GR_cons rfl rfl rfl rfl ((by first | exact V_field rfl rfl fo_101_2 | exact V_fieldA rfl rfl fo_101_2)) (GR_cons rfl rfl rfl rfl (V_load rfl rfl ag_3 (CellAt.item rfl)) (GR_cons rfl rfl rfl rfl ((by first | exact V_field rfl rfl fo_59_3 | exact V_fieldA rfl rfl fo_59_3)) (GR_cons rfl rfl rfl rfl (V_load rfl rfl ag_3 (CellAt.item rfl)) (GR_cons rfl rfl rfl rfl (V_add rfl rfl rfl ((wrap_i64 (by omega)).trans (show _ = bgn p k from rfl))) (GR_cons rfl rfl rfl rfl (V_build (vs := [_, _, _, _, _, _, _, _, _, _]) rfl rfl zc_103 pl_103 sa_103 rfl) (GR_nil))))))))))) (fun b10 => ?_)
            refine GT_store (vs := [_, _, _, _, _, _, _, _, _, _]) (l' := [_, _, _, _, _, _, _, _, _, _]) rfl rfl rfl rfl rfl rfl rfl sz_103 rfl rfl (Nat.le_of_ble_eq_true rfl) rfl (GR_nil) ?_
            refine GT_nil ?_
            refine GE_seq ?_
            refine GE_slots (L' := [(7, _), (9, _), (10, _), (25, _), (26, _), (27, _)]) ⟨rfl, rfl, rfl, rfl, rfl, rfl, trivial⟩ ?_
            refine GE_plain (.st 0 (.st 1 (.st 2 (.st 3 (.st 4 (.st 5 (.st 6 (.st 7 (.st 8 (.ld 9 [] .nil)))))))))) rfl ?_
            first | refine GT_st rfl rfl rfl rfl (V_field rfl rfl fo_103_2) ?_ | refine GT_st rfl rfl rfl rfl (V_fieldA rfl rfl fo_103_2) ?_
            refine GT_st rfl rfl rfl rfl (V_load rfl rfl ag_3 (CellAt.item rfl)) ?_
            first | refine GT_st rfl rfl rfl rfl (V_field rfl rfl fo_59_2) ?_ | refine GT_st rfl rfl rfl rfl (V_fieldA rfl rfl fo_59_2) ?_
            refine GT_st rfl rfl rfl rfl (V_load rfl rfl ag_3 (CellAt.item rfl)) ?_
            refine GT_st rfl rfl rfl rfl (V_add rfl rfl rfl (wrap_i64 (by omega))) ?_
            first | refine GT_st rfl rfl rfl rfl (V_field rfl rfl fo_59_1) ?_ | refine GT_st rfl rfl rfl rfl (V_fieldA rfl rfl fo_59_1) ?_
            refine GT_st rfl rfl rfl rfl (V_load rfl rfl ag_3 (CellAt.item rfl)) ?_
            refine GT_st rfl rfl rfl rfl (V_sub rfl rfl rfl ((wrap_i64 (by omega)).trans (show bgn p k + (pt p k).to - (pt p k).fr = en p k by omega))) ?_
            first | refine GT_st rfl rfl rfl rfl (V_field rfl rfl fo_103_3) ?_ | refine GT_st rfl rfl rfl rfl (V_fieldA rfl rfl fo_103_3) ?_
            refine GT_store (vs := [_]) (l' := [_, _, _, _, _, _, _, _, _, _]) rfl rfl rfl rfl rfl rfl rfl sz_3 rfl rfl (Nat.le_of_ble_eq_true rfl) rfl (GR_nil) ?_
            refine GT_nil ?_
            refine GE_seq ?_
            refine GE_slots (L' := [(7, _), (10, _), (25, _), (26, _), (27, _)]) ⟨rfl, rfl, rfl, rfl, rfl, trivial⟩ ?_
            refine GE_drawn (.st 0 (.st 1 (.st 2 (.st 3 (.st 4 (.st 5 (.ld 6 [0, 1, 2, 3, 4] (.ld 7 [0] (.st 8 (.st 9 (.ld 10 [] .nil))))))))))) [6, 7, 10] (by decide +kernel) ?_
            refine GT_st rfl rfl rfl rfl (V_move rfl rfl) ?_
            refine GT_st rfl rfl rfl rfl (V_move rfl rfl) ?_
            first | refine GT_st rfl rfl rfl rfl (V_nilCheck rfl rfl) ?_ | refine GT_st rfl rfl rfl rfl (V_nilCheck_func rfl rfl) ?_ | refine GT_st rfl rfl rfl rfl (V_nilCheck_yield rfl rfl) ?_
            first | refine GT_st rfl rfl rfl rfl (V_field rfl rfl fo_101_1) ?_ | refine GT_st rfl rfl rfl rfl (V_fieldA rfl rfl fo_101_1) ?_
            refine GT_st rfl rfl rfl rfl (V_load rfl rfl ag_99 (CellAt.item rfl)) ?_
            refine GT_st rfl rfl rfl rfl (V_loadN (vs := [_, _, _, _, _, _, _, _, _, _]) rfl rfl ag_103 sz_103 rfl (CellsAt.item rfl)) ?_
            refine GT_buildSlice (z := [_, _, _, _, _, _, _, _, _, _]) rfl rfl rfl rfl rfl Tryz.underlying99 zc_103 sz_103 (by decide) rfl rfl (fun _ => GR_cons rfl rfl rfl rfl (V_move rfl rfl) (GR_cons rfl rfl rfl rfl (V_move rfl rfl) (GR_cons rfl rfl rfl rfl ((by first | exact V_nilCheck rfl rfl | exact V_nilCheck_func rfl rfl | exact V_nilCheck_yield rfl rfl)) (GR_cons rfl rfl rfl rfl ((by first | exact V_field rfl rfl fo_101_1 | exact V_fieldA rfl rfl fo_101_1)) (GR_cons rfl rfl rfl rfl (V_load rfl rfl ag_99 (CellAt.item rfl)) (GR_nil)))))) (fun b61 => ?_)
            refine GT_append (enc := ePlc) (m := [plc p k]) rfl rfl rfl rfl rfl rfl rfl hO (fun w m => RdL.own' m ePlc_len) Tryz.underlying99 zc_103 sz_103 ⟨rfl, by decide⟩ by_103 ⟨by rw [plcs_len]; simp only [List.length_singleton]; omega, by rw [plcs_len]; simp only [List.length_singleton]; omega⟩ ePlc_len ePlc_one (fun _ _ _ _ => GR_cons rfl rfl rfl rfl (V_move rfl rfl) (GR_nil)) (fun A2' c2' I2' hO2 => ?_)
            rw [← plcs_succ, plcs_len] at hO2 ⊢
            first | refine GT_st rfl rfl rfl rfl (V_nilCheck rfl rfl) ?_ | refine GT_st rfl rfl rfl rfl (V_nilCheck_func rfl rfl) ?_ | refine GT_st rfl rfl rfl rfl (V_nilCheck_yield rfl rfl) ?_
            first | refine GT_st rfl rfl rfl rfl (V_field rfl rfl fo_101_1) ?_ | refine GT_st rfl rfl rfl rfl (V_fieldA rfl rfl fo_101_1) ?_
            refine GT_store (vs := [_]) (l' := [_, _, _]) rfl rfl rfl rfl rfl rfl rfl sz_99 rfl rfl (Nat.le_of_ble_eq_true rfl) rfl (GR_nil) ?_
            refine GT_nil ?_
            refine GE_slots (L' := [(7, _), (10, _), (25, _), (26, _), (27, _)]) ⟨rfl, rfl, rfl, rfl, rfl, trivial⟩ ?_
            refine GE_plain (.st 0 (.st 1 (.st 2 (.st 3 (.st 4 (.ld 5 [] .nil)))))) rfl ?_
            refine GT_st rfl rfl rfl rfl (V_move rfl rfl) ?_
            first | refine GT_st rfl rfl rfl rfl (V_field rfl rfl fo_103_3) ?_ | refine GT_st rfl rfl rfl rfl (V_fieldA rfl rfl fo_103_3) ?_
            refine GT_st rfl rfl rfl rfl (V_load rfl rfl ag_3 (CellAt.item rfl)) ?_
            first | refine GT_st rfl rfl rfl rfl (V_nilCheck rfl rfl) ?_ | refine GT_st rfl rfl rfl rfl (V_nilCheck_func rfl rfl) ?_ | refine GT_st rfl rfl rfl rfl (V_nilCheck_yield rfl rfl) ?_
            first | refine GT_st rfl rfl rfl rfl (V_field rfl rfl fo_101_2) ?_ | refine GT_st rfl rfl rfl rfl (V_fieldA rfl rfl fo_101_2) ?_
            refine GT_store (vs := [_]) (l' := [_, _, _]) rfl rfl rfl rfl rfl rfl rfl sz_3 rfl rfl (Nat.le_of_ble_eq_true rfl) rfl (GR_nil) ?_
            refine GT_nil ?_
            refine GE_inBlock ?_
            refine GE_slots (L' := [(7, _), (25, _), (26, _), (27, _)]) ⟨rfl, rfl, rfl, rfl, trivial⟩ ?_
            refine GE_plain (.st 0 (.ld 1 [] .nil)) rfl ?_
            refine GT_st rfl rfl rfl rfl (V_add rfl rfl rfl (wrap_i64 (by omega))) ?_
            refine GT_ldv rfl rfl rfl rfl rfl (V_move rfl rfl) (GR_nil) ?_
            refine GT_nil ?_
            exact GE_to (ih (k + 1, A2', c2', I2') ⟨by dsimp only; omega, fun i hi => by rcases Nat.lt_or_ge i k with r | r; exact hgd i r; rw [show i = k by dsimp only at hi; omega]; exact h4, hO2⟩ (by dsimp only; omega)) ⟨rfl, rfl, rfl, rfl, trivial⟩ (HS.cons (by rw [fin_take hkl]) HS.last)
        · obtain rfl : k = p.length := (by omega); rw [fin_all]; have hall := all_getD.2 hgd
          refine GE_exit rfl ?_
          refine GE_seq ?_
          refine GE_slots (L' := [(7, _)]) ⟨rfl, trivial⟩ ?_
          refine GE_plain (.st 0 .nil) rfl ?_
          refine GT_st rfl rfl rfl rfl (V_assign rfl rfl) ?_
          refine GT_nil ?_
          refine GE_seq ?_
          refine GE_seq ?_
          refine GE_plain (.st 0 (.st 1 (.st 2 (.st 3 (.st 4 (.st 5 .nil)))))) rfl ?_
          refine GT_st rfl rfl rfl rfl (V_move rfl rfl) ?_
          first | refine GT_st rfl rfl rfl rfl (V_nilCheck rfl rfl) ?_ | refine GT_st rfl rfl rfl rfl (V_nilCheck_func rfl rfl) ?_ | refine GT_st rfl rfl rfl rfl (V_nilCheck_yield rfl rfl) ?_
          first | refine GT_st rfl rfl rfl rfl (V_field rfl rfl fo_101_1) ?_ | refine GT_st rfl rfl rfl rfl (V_fieldA rfl rfl fo_101_1) ?_
          refine GT_st rfl rfl rfl rfl (V_load rfl rfl ag_99 (CellAt.item rfl)) ?_
          refine GT_st rfl rfl rfl rfl (V_len rfl Tryz.underlying99 rfl) ?_
          refine GT_st rfl rfl rfl rfl (V_move rfl rfl) ?_
          refine GT_nil ?_
          refine GE_block ?_
          refine GE_to (GE_loop (ι := Nat × Int) (fun x => p.length - x.1) (fun x => [(7, ptr b24 0), (11, I x.2), (74, .slice A' p.length c'), (75, I p.length), (76, I x.1)]) (fun x => (b24, blk [.slice A l.length c, .slice A' p.length c', I (fin p)] 101) :: I') (fun x => x.1 ≤ p.length ∧ (∀ i, i < x.1 → posOk p i) ∧ (x.1 ≤ 1 → x.2 = 0) ∧ (1 < x.1 → x.2 = en p (x.1 - 2))) ?_ (0, 0) ?_) ⟨rfl, rfl, rfl, rfl, rfl, trivial⟩ HS.all
          · rintro ⟨j, fr⟩ ⟨hj, hps, hf1, hf2⟩ ih2; dsimp only at hj hps hf1 hf2 ih2 ⊢; have hnn := bgn_nn hps
            refine GE_seq ?_
            refine GE_plain (.st 0 .nil) rfl ?_
            refine GT_st rfl rfl rfl rfl (V_lss rfl rfl rfl) ?_
            refine GT_nil ?_
            refine GE_seq ?_
            first | refine GE_condNot rfl (fun h5 => ?_) (fun h5 => ?_) | refine GE_cond rfl (fun h5 => ?_) (fun h5 => ?_) | refine GE_condNotB rfl (fun h5 => ?_) (fun h5 => ?_) | refine GE_condB rfl (fun h5 => ?_) (fun h5 => ?_)
            · have hjl : j < p.length := (by omega)
              refine GE_skip ?_
              refine GE_seq ?_
              refine GE_block ?_
              refine GE_seq ?_
              refine GE_plain (.st 0 (.st 1 (.st 2 (.ld 3 [] (.st 4 (.ld 5 [] .nil)))))) rfl ?_
              refine GT_st rfl rfl rfl rfl (V_move rfl rfl) ?_
              refine GT_st rfl rfl rfl rfl (V_index rfl rfl rfl Tryz.underlying99 sz_103 (k := j) rfl hjl (hO.isSome (k := j) (by rw [plcs_len]; exact hjl))) ?_
              refine GT_st rfl rfl rfl rfl (V_loadN (vs := [_, _, _, _, _, _, _, _, _, _]) rfl rfl ag_103 sz_103 rfl (CellsAt.ownE hO ePlc_len (by rw [plcs_len]; exact hjl) (by rw [plcs_get hjl, ePlc_plc]))) ?_
              refine GT_alloc rfl rfl rfl rfl rfl zc_103 (fun _ => GR_nil) (fun b13 => ?_)
              refine GT_st rfl rfl rfl rfl (V_assign rfl rfl) ?_
              refine GT_store (vs := [_, _, _, _, _, _, _, _, _, _]) (l' := [_, _, _, _, _, _, _, _, _, _]) rfl rfl rfl rfl rfl rfl rfl sz_103 rfl rfl (Nat.le_of_ble_eq_true rfl) rfl (GR_nil) ?_
              refine GT_nil ?_
              refine GE_seq ?_
              refine GE_seq ?_
              refine GE_slots (L' := [(7, _), (11, _), (12, _), (13, _), (74, _), (75, _), (76, _)]) ⟨rfl, rfl, rfl, rfl, rfl, rfl, rfl, trivial⟩ ?_
              refine GE_drawn (.st 0 (.st 1 (.st 2 (.st 3 (.st 4 (.st 5 (.st 6 (.st 7 (.st 8 (.st 9 (.st 10 (.st 11 (.st 12 (.st 13 (.st 14 (.st 15 (.st 16 (.st 17 (.st 18 (.st 19 (.st 20 (.st 21 (.st 22 (.st 23 (.st 24 (.st 25 (.st 26 (.st 27 (.st 28 (.st 29 (.st 30 (.st 31 (.st 32 (.st 33 (.st 34 (.st 35 .nil)))))))))))))))))))))))))))))))))))) [] (by decide +kernel) ?_
              refine GT_st rfl rfl rfl rfl (V_move rfl rfl) ?_
              refine GT_st rfl rfl rfl rfl (V_gtr rfl rfl rfl) ?_
              refine GT_st rfl rfl rfl rfl (V_move rfl rfl) ?_
              first | refine GT_splitNot (d := 83) rfl (fun h6 => ?_) (fun h6 => ?_) | refine GT_split (d := 83) rfl (fun h6 => ?_) (fun h6 => ?_) | refine GT_splitNotB (d := 83) rfl (fun h6 => ?_) (fun h6 => ?_) | refine GT_splitB (d := 83) rfl (fun h6 => ?_) (fun h6 => ?_)
              · have hn1 := hnn (j - 1) (by omega)
                first | refine GT_st_g rfl rfl rfl rfl rfl rfl rfl (V_field rfl rfl fo_103_3) ?_ | refine GT_st_g rfl rfl rfl rfl rfl rfl rfl (V_fieldA rfl rfl fo_103_3) ?_
                refine GT_st_g rfl rfl rfl rfl rfl rfl rfl (V_load rfl rfl ag_3 (CellAt.item rfl)) ?_
                refine GT_st_g rfl rfl rfl rfl rfl rfl rfl (V_move rfl rfl) ?_
                first | refine GT_st_g rfl rfl rfl rfl rfl rfl rfl (V_nilCheck rfl rfl) ?_ | refine GT_st_g rfl rfl rfl rfl rfl rfl rfl (V_nilCheck_func rfl rfl) ?_ | refine GT_st_g rfl rfl rfl rfl rfl rfl rfl (V_nilCheck_yield rfl rfl) ?_
                first | refine GT_st_g rfl rfl rfl rfl rfl rfl rfl (V_field rfl rfl fo_101_1) ?_ | refine GT_st_g rfl rfl rfl rfl rfl rfl rfl (V_fieldA rfl rfl fo_101_1) ?_
                refine GT_st_g rfl rfl rfl rfl rfl rfl rfl (V_load rfl rfl ag_99 (CellAt.item rfl)) ?_
                refine GT_st_g rfl rfl rfl rfl rfl rfl rfl (V_move rfl rfl) ?_
                refine GT_st_g rfl rfl rfl rfl rfl rfl rfl (V_sub rfl rfl rfl (wrap_i64 (by omega))) ?_
                refine GT_st_g rfl rfl rfl rfl rfl rfl rfl (V_index rfl rfl rfl Tryz.underlying99 sz_103 (k := j - 1) (by omega) (by omega) (hO.isSome (k := j) (by rw [plcs_len]; exact hjl))) ?_
                first | refine GT_st_g rfl rfl rfl rfl rfl rfl rfl (V_field rfl rfl fo_103_3) ?_ | refine GT_st_g rfl rfl rfl rfl rfl rfl rfl (V_fieldA rfl rfl fo_103_3) ?_
                refine GT_st_g rfl rfl rfl rfl rfl rfl rfl (V_load rfl rfl ag_3 (CellAt.own (k := j - 1) hO ePlc_len (by rw [plcs_len]; omega) (by rw [plcs_get (by omega)]; exact (show (ePlc (plc p (j - 1)))[9]? = some (I (en p (j - 1))) from rfl)))) ?_
                refine GT_st_g rfl rfl rfl rfl rfl rfl rfl (V_lss rfl rfl rfl) ?_
                refine GT_st_g rfl rfl rfl rfl rfl rfl rfl (V_move rfl rfl) ?_
                first | refine GT_splitNot (d := 96) rfl (fun h7 => ?_) (fun h7 => ?_) | refine GT_split (d := 96) rfl (fun h7 => ?_) (fun h7 => ?_) | refine GT_splitNotB (d := 96) rfl (fun h7 => ?_) (fun h7 => ?_) | refine GT_splitB (d := 96) rfl (fun h7 => ?_) (fun h7 => ?_)
                · skip
                  refine GT_skip rfl rfl rfl rfl rfl (by decide) rfl rfl ?_
                  refine GT_skip rfl rfl rfl rfl rfl (by decide) rfl rfl ?_
                  refine GT_skip rfl rfl rfl rfl rfl (by decide) rfl rfl ?_
                  refine GT_skip rfl rfl rfl rfl rfl (by decide) rfl rfl ?_
                  refine GT_skip rfl rfl rfl rfl rfl (by decide) rfl rfl ?_
                  refine GT_skip rfl rfl rfl rfl rfl (by decide) rfl rfl ?_
                  refine GT_skip rfl rfl rfl rfl rfl (by decide) rfl rfl ?_
                  refine GT_skip rfl rfl rfl rfl rfl (by decide) rfl rfl ?_
                  refine GT_skip rfl rfl rfl rfl rfl (by decide) rfl rfl ?_
                  refine GT_skip rfl rfl rfl rfl rfl (by decide) rfl rfl ?_
                  refine GT_skip rfl rfl rfl rfl rfl (by decide) rfl rfl ?_
                  refine GT_skip rfl rfl rfl rfl rfl (by decide) rfl rfl ?_
                  refine GT_st_g rfl rfl rfl rfl rfl rfl rfl (V_pick_t rfl rfl rfl) ?_
                  refine GT_st rfl rfl rfl rfl (V_pick_t rfl rfl rfl) ?_
                  refine GT_st rfl rfl rfl rfl (V_move rfl rfl) ?_
                  refine GT_skip rfl rfl rfl rfl rfl (by decide) rfl rfl ?_
                  refine GT_skip rfl rfl rfl rfl rfl (by decide) rfl rfl ?_
                  refine GT_skip rfl rfl rfl rfl rfl (by decide) rfl rfl ?_
                  refine GT_skip rfl rfl rfl rfl rfl (by decide) rfl rfl ?_
                  refine GT_st rfl rfl rfl rfl (V_pick_t rfl rfl rfl) ?_
                  refine GT_nil ?_
                  refine GE_cond_t rfl ?_
                  refine GE_seq ?_
                  refine GE_slots (L' := []) trivial ?_
                  refine GE_plain (.st 0 (.st 1 .nil)) rfl ?_
                  refine GT_st rfl rfl rfl rfl (V_assign rfl rfl) ?_
                  refine GT_st rfl rfl rfl rfl (V_assign rfl rfl) ?_
                  refine GT_nil ?_
                  refine GE_ret Tryz.func39 ⟨_, _, rfl, rfl, rfl⟩ (fun w hw => ?_)
                  first | exact .inl ⟨gErr_zero.2 ⟨hl, by omega, fun i hi => goodP_iff.1 (hgd i hi), hps, by omega⟩, b24, A', c', I', hO, rfl, hw⟩ | (have e : gErr l p = 15 := (by rw [gErr, if_pos h1, if_neg (by omega), if_pos hall, if_neg (fun hP => by have := hP.1 j hjl; unfold posOk at this; omega)]); exact .inr ⟨by omega, by rw [e], hw.nil⟩)
                · skip
                  first | refine GT_st_g rfl rfl rfl rfl rfl rfl rfl (V_field rfl rfl fo_103_2) ?_ | refine GT_st_g rfl rfl rfl rfl rfl rfl rfl (V_fieldA rfl rfl fo_103_2) ?_
                  refine GT_st_g rfl rfl rfl rfl rfl rfl rfl (V_load rfl rfl ag_3 (CellAt.item rfl)) ?_
                  refine GT_st_g rfl rfl rfl rfl rfl rfl rfl (V_move rfl rfl) ?_
                  first | refine GT_st_g rfl rfl rfl rfl rfl rfl rfl (V_nilCheck rfl rfl) ?_ | refine GT_st_g rfl rfl rfl rfl rfl rfl rfl (V_nilCheck_func rfl rfl) ?_ | refine GT_st_g rfl rfl rfl rfl rfl rfl rfl (V_nilCheck_yield rfl rfl) ?_
                  first | refine GT_st_g rfl rfl rfl rfl rfl rfl rfl (V_field rfl rfl fo_101_1) ?_ | refine GT_st_g rfl rfl rfl rfl rfl rfl rfl (V_fieldA rfl rfl fo_101_1) ?_
                  refine GT_st_g rfl rfl rfl rfl rfl rfl rfl (V_load rfl rfl ag_99 (CellAt.item rfl)) ?_
                  refine GT_st_g rfl rfl rfl rfl rfl rfl rfl (V_move rfl rfl) ?_
                  refine GT_st_g rfl rfl rfl rfl rfl rfl rfl (V_sub rfl rfl rfl (wrap_i64 (by omega))) ?_
                  refine GT_st_g rfl rfl rfl rfl rfl rfl rfl (V_index rfl rfl rfl Tryz.underlying99 sz_103 (k := j - 1) (by omega) (by omega) (hO.isSome (k := j) (by rw [plcs_len]; exact hjl))) ?_
                  first | refine GT_st_g rfl rfl rfl rfl rfl rfl rfl (V_field rfl rfl fo_103_2) ?_ | refine GT_st_g rfl rfl rfl rfl rfl rfl rfl (V_fieldA rfl rfl fo_103_2) ?_
                  refine GT_st_g rfl rfl rfl rfl rfl rfl rfl (V_load rfl rfl ag_3 (CellAt.own (k := j - 1) hO ePlc_len (by rw [plcs_len]; omega) (by rw [plcs_get (by omega)]; exact (show (ePlc (plc p (j - 1)))[8]? = some (I (bgn p (j - 1))) from rfl)))) ?_
                  refine GT_st_g rfl rfl rfl rfl rfl rfl rfl (V_lss rfl rfl rfl) ?_
                  refine GT_st_g rfl rfl rfl rfl rfl rfl rfl (V_pick_f rfl rfl rfl) ?_
                  refine GT_st rfl rfl rfl rfl (V_pick_t rfl rfl rfl) ?_
                  refine GT_st rfl rfl rfl rfl (V_move rfl rfl) ?_
                  first | refine GT_splitNot (d := 111) rfl (fun h8 => ?_) (fun h8 => ?_) | refine GT_split (d := 111) rfl (fun h8 => ?_) (fun h8 => ?_) | refine GT_splitNotB (d := 111) rfl (fun h8 => ?_) (fun h8 => ?_) | refine GT_splitB (d := 111) rfl (fun h8 => ?_) (fun h8 => ?_)
                  · skip
                    refine GT_skip rfl rfl rfl rfl rfl (by decide) rfl rfl ?_
                    refine GT_skip rfl rfl rfl rfl rfl (by decide) rfl rfl ?_
                    refine GT_skip rfl rfl rfl rfl rfl (by decide) rfl rfl ?_
                    refine GT_skip rfl rfl rfl rfl rfl (by decide) rfl rfl ?_
                    refine GT_st rfl rfl rfl rfl (V_pick_t rfl rfl rfl) ?_
                    refine GT_nil ?_
                    refine GE_cond_t rfl ?_
                    refine GE_seq ?_
                    refine GE_slots (L' := []) trivial ?_
                    refine GE_plain (.st 0 (.st 1 .nil)) rfl ?_
                    refine GT_st rfl rfl rfl rfl (V_assign rfl rfl) ?_
                    refine GT_st rfl rfl rfl rfl (V_assign rfl rfl) ?_
                    refine GT_nil ?_
                    refine GE_ret Tryz.func39 ⟨_, _, rfl, rfl, rfl⟩ (fun w hw => ?_)
                    first | exact .inl ⟨gErr_zero.2 ⟨hl, by omega, fun i hi => goodP_iff.1 (hgd i hi), hps, by omega⟩, b24, A', c', I', hO, rfl, hw⟩ | (have e : gErr l p = 15 := (by rw [gErr, if_pos h1, if_neg (by omega), if_pos hall, if_neg (fun hP => by have := hP.1 j hjl; unfold posOk at this; omega)]); exact .inr ⟨by omega, by rw [e], hw.nil⟩)
                  · skip
                    first | refine GT_st_g rfl rfl rfl rfl rfl rfl rfl (V_field rfl rfl fo_103_2) ?_ | refine GT_st_g rfl rfl rfl rfl rfl rfl rfl (V_fieldA rfl rfl fo_103_2) ?_
                    refine GT_st_g rfl rfl rfl rfl rfl rfl rfl (V_load rfl rfl ag_3 (CellAt.item rfl)) ?_
                    refine GT_st_g rfl rfl rfl rfl rfl rfl rfl (V_move rfl rfl) ?_
                    refine GT_st_g rfl rfl rfl rfl rfl rfl rfl (V_lss rfl rfl rfl) ?_
                    refine GT_st rfl rfl rfl rfl (V_pick_f rfl rfl rfl) ?_
                    refine GT_nil ?_
                    first | refine GE_condNot rfl (fun h9 => ?_) (fun h9 => ?_) | refine GE_cond rfl (fun h9 => ?_) (fun h9 => ?_) | refine GE_condNotB rfl (fun h9 => ?_) (fun h9 => ?_) | refine GE_condB rfl (fun h9 => ?_) (fun h9 => ?_)
                    · skip
                      refine GE_seq ?_
                      refine GE_slots (L' := []) trivial ?_
                      refine GE_plain (.st 0 (.st 1 .nil)) rfl ?_
                      refine GT_st rfl rfl rfl rfl (V_assign rfl rfl) ?_
                      refine GT_st rfl rfl rfl rfl (V_assign rfl rfl) ?_
                      refine GT_nil ?_
                      refine GE_ret Tryz.func39 ⟨_, _, rfl, rfl, rfl⟩ (fun w hw => ?_)
                      have e : gErr l p = 15 := (by rw [gErr, if_pos h1, if_neg (by omega), if_pos hall, if_neg (fun hP => by have := hP.1 j hjl; unfold posOk at this; omega)]); exact .inr ⟨by omega, by rw [e], hw.nil⟩
                    · have hok : posOk p j := (by unfold posOk; omega)
                      refine GE_skip ?_
                      refine GE_seq ?_
                      refine GE_slots (L' := [(7, _), (11, _), (12, _), (74, _), (75, _), (76, _), (84, _), (85, _), (86, _), (87, _), (88, _), (89, _), (90, _), (91, _), (92, _), (93, _), (94, _), (95, _), (96, _), (97, _), (98, _), (99, _), (100, _), (101, _), (102, _), (103, _), (104, _), (105, _), (106, _), (107, _), (108, _), (109, _), (112, _), (113, _), (114, _), (115, _)]) ⟨rfl, rfl, rfl, rfl, rfl, rfl, rfl, rfl, rfl, rfl, rfl, rfl, rfl, rfl, rfl, rfl, rfl, rfl, rfl, rfl, rfl, rfl, rfl, rfl, rfl, rfl, rfl, rfl, rfl, rfl, rfl, rfl, rfl, rfl, rfl, rfl, trivial⟩ ?_
                      refine GE_plain (.st 0 (.st 1 .nil)) rfl ?_
                      refine GT_st rfl rfl rfl rfl (V_move rfl rfl) ?_
                      refine GT_st rfl rfl rfl rfl (V_gtr rfl rfl rfl) ?_
                      refine GT_nil ?_
                      first | refine GE_condNot rfl (fun h10 => ?_) (fun h10 => ?_) | refine GE_cond rfl (fun h10 => ?_) (fun h10 => ?_) | refine GE_condNotB rfl (fun h10 => ?_) (fun h10 => ?_) | refine GE_condB rfl (fun h10 => ?_) (fun h10 => ?_)
                      · skip
                        refine GE_plain (.st 0 (.st 1 (.st 2 (.st 3 (.st 4 (.st 5 (.st 6 (.st 7 (.st 8 (.st 9 .nil)))))))))) rfl ?_
                        refine GT_st rfl rfl rfl rfl (V_move rfl rfl) ?_
                        first | refine GT_st rfl rfl rfl rfl (V_nilCheck rfl rfl) ?_ | refine GT_st rfl rfl rfl rfl (V_nilCheck_func rfl rfl) ?_ | refine GT_st rfl rfl rfl rfl (V_nilCheck_yield rfl rfl) ?_
                        first | refine GT_st rfl rfl rfl rfl (V_field rfl rfl fo_101_1) ?_ | refine GT_st rfl rfl rfl rfl (V_fieldA rfl rfl fo_101_1) ?_
                        refine GT_st rfl rfl rfl rfl (V_load rfl rfl ag_99 (CellAt.item rfl)) ?_
                        refine GT_st rfl rfl rfl rfl (V_move rfl rfl) ?_
                        refine GT_st rfl rfl rfl rfl (V_sub rfl rfl rfl (wrap_i64 (by omega))) ?_
                        refine GT_st rfl rfl rfl rfl (V_index rfl rfl rfl Tryz.underlying99 sz_103 (k := j - 1) (by omega) (by omega) (hO.isSome (k := j) (by rw [plcs_len]; exact hjl))) ?_
                        first | refine GT_st rfl rfl rfl rfl (V_field rfl rfl fo_103_3) ?_ | refine GT_st rfl rfl rfl rfl (V_fieldA rfl rfl fo_103_3) ?_
                        refine GT_st rfl rfl rfl rfl (V_load rfl rfl ag_3 (CellAt.own (k := j - 1) hO ePlc_len (by rw [plcs_len]; omega) (by rw [plcs_get (by omega)]; exact (show (ePlc (plc p (j - 1)))[9]? = some (I (en p (j - 1))) from rfl)))) ?_
                        refine GT_st rfl rfl rfl rfl (V_assign rfl rfl) ?_
                        refine GT_nil ?_
                        refine GE_inBlock ?_
                        refine GE_slots (L' := [(7, _), (11, _), (74, _), (75, _), (76, _), (84, _), (85, _), (86, _), (87, _), (88, _), (89, _), (90, _), (91, _), (92, _), (93, _), (94, _), (95, _), (96, _), (97, _), (98, _), (99, _), (100, _), (101, _), (102, _), (103, _), (104, _), (105, _), (106, _), (107, _), (108, _), (109, _), (112, _), (113, _), (114, _), (115, _)]) ⟨rfl, rfl, rfl, rfl, rfl, rfl, rfl, rfl, rfl, rfl, rfl, rfl, rfl, rfl, rfl, rfl, rfl, rfl, rfl, rfl, rfl, rfl, rfl, rfl, rfl, rfl, rfl, rfl, rfl, rfl, rfl, rfl, rfl, rfl, rfl, trivial⟩ ?_
                        refine GE_plain (.st 0 (.ld 1 [] .nil)) rfl ?_
                        refine GT_st rfl rfl rfl rfl (V_add rfl rfl rfl (wrap_i64 (by omega))) ?_
                        refine GT_ldv rfl rfl rfl rfl rfl (V_move rfl rfl) (GR_nil) ?_
                        refine GT_nil ?_
                        first
                          | exact GE_to (ih2 (j + 1, en p (j - 1)) ⟨by dsimp only; omega, fun i hi => by rcases Nat.lt_or_ge i j with r | r; exact hps i r; rw [show i = j by dsimp only at hi; omega]; exact hok, fun q => by dsimp only at q; omega, fun _ => by dsimp only; rw [show j + 1 - 2 = j - 1 by omega]⟩ (by dsimp only; omega)) ⟨rfl, rfl, rfl, rfl, rfl, trivial⟩ (HS.cons rfl HS.last)
                          | exact GE_to (ih2 (j + 1, fr) ⟨by dsimp only; omega, fun i hi => by rcases Nat.lt_or_ge i j with r | r; exact hps i r; rw [show i = j by dsimp only at hi; omega]; exact hok, fun q => hf1 (by omega), fun q => by dsimp only at q; omega⟩ (by dsimp only; omega)) ⟨rfl, rfl, rfl, rfl, rfl, trivial⟩ (HS.cons rfl HS.last)
                      · skip
                        refine GE_skip ?_
                        refine GE_inBlock ?_
                        refine GE_plain (.st 0 (.ld 1 [] .nil)) rfl ?_
                        refine GT_st rfl rfl rfl rfl (V_add rfl rfl rfl (wrap_i64 (by omega))) ?_
                        refine GT_ldv rfl rfl rfl rfl rfl (V_move rfl rfl) (GR_nil) ?_
                        refine GT_nil ?_
                        first
                          | exact GE_to (ih2 (j + 1, en p (j - 1)) ⟨by dsimp only; omega, fun i hi => by rcases Nat.lt_or_ge i j with r | r; exact hps i r; rw [show i = j by dsimp only at hi; omega]; exact hok, fun q => by dsimp only at q; omega, fun _ => by dsimp only; rw [show j + 1 - 2 = j - 1 by omega]⟩ (by dsimp only; omega)) ⟨rfl, rfl, rfl, rfl, rfl, trivial⟩ (HS.cons rfl HS.last)
                          | exact GE_to (ih2 (j + 1, fr) ⟨by dsimp only; omega, fun i hi => by rcases Nat.lt_or_ge i j with r | r; exact hps i r; rw [show i = j by dsimp only at hi; omega]; exact hok, fun q => hf1 (by omega), fun q => by dsimp only at q; omega⟩ (by dsimp only; omega)) ⟨rfl, rfl, rfl, rfl, rfl, trivial⟩ (HS.cons rfl HS.last)
              · skip
                refine GT_skip rfl rfl rfl rfl rfl (by decide) rfl rfl ?_
                refine GT_skip rfl rfl rfl rfl rfl (by decide) rfl rfl ?_
                refine GT_skip rfl rfl rfl rfl rfl (by decide) rfl rfl ?_
                refine GT_skip rfl rfl rfl rfl rfl (by decide) rfl rfl ?_
                refine GT_skip rfl rfl rfl rfl rfl (by decide) rfl rfl ?_
                refine GT_skip rfl rfl rfl rfl rfl (by decide) rfl rfl ?_
                refine GT_skip rfl rfl rfl rfl rfl (by decide) rfl rfl ?_
                refine GT_skip rfl rfl rfl rfl rfl (by decide) rfl rfl ?_
                refine GT_skip rfl rfl rfl rfl rfl (by decide) rfl rfl ?_
                refine GT_skip rfl rfl rfl rfl rfl (by decide) rfl rfl ?_
                refine GT_skip rfl rfl rfl rfl rfl (by decide) rfl rfl ?_
                refine GT_skip rfl rfl rfl rfl rfl (by decide) rfl rfl ?_
                refine GT_skip rfl rfl rfl rfl rfl (by decide) rfl rfl ?_
                refine GT_skip rfl rfl rfl rfl rfl (by decide) rfl rfl ?_
                refine GT_skip rfl rfl rfl rfl rfl (by decide) rfl rfl ?_
                refine GT_skip rfl rfl rfl rfl rfl (by decide) rfl rfl ?_
                refine GT_skip rfl rfl rfl rfl rfl (by decide) rfl rfl ?_
                refine GT_skip rfl rfl rfl rfl rfl (by decide) rfl rfl ?_
                refine GT_skip rfl rfl rfl rfl rfl (by decide) rfl rfl ?_
                refine GT_skip rfl rfl rfl rfl rfl (by decide) rfl rfl ?_
                refine GT_skip rfl rfl rfl rfl rfl (by decide) rfl rfl ?_
                refine GT_skip rfl rfl rfl rfl rfl (by decide) rfl rfl ?_
                refine GT_skip rfl rfl rfl rfl rfl (by decide) rfl rfl ?_
                refine GT_skip rfl rfl rfl rfl rfl (by decide) rfl rfl ?_
                refine GT_skip rfl rfl rfl rfl rfl (by decide) rfl rfl ?_
                refine GT_skip rfl rfl rfl rfl rfl (by decide) rfl rfl ?_
                refine GT_st rfl rfl rfl rfl (V_pick_f rfl rfl rfl) ?_
                refine GT_st rfl rfl rfl rfl (V_move rfl rfl) ?_
                first | refine GT_st_g rfl rfl rfl rfl rfl rfl rfl (V_field rfl rfl fo_103_2) ?_ | refine GT_st_g rfl rfl rfl rfl rfl rfl rfl (V_fieldA rfl rfl fo_103_2) ?_
                refine GT_st_g rfl rfl rfl rfl rfl rfl rfl (V_load rfl rfl ag_3 (CellAt.item rfl)) ?_
                refine GT_st_g rfl rfl rfl rfl rfl rfl rfl (V_move rfl rfl) ?_
                refine GT_st_g rfl rfl rfl rfl rfl rfl rfl (V_lss rfl rfl rfl) ?_
                refine GT_st rfl rfl rfl rfl (V_pick_f rfl rfl rfl) ?_
                refine GT_nil ?_
                first | refine GE_condNot rfl (fun h9 => ?_) (fun h9 => ?_) | refine GE_cond rfl (fun h9 => ?_) (fun h9 => ?_) | refine GE_condNotB rfl (fun h9 => ?_) (fun h9 => ?_) | refine GE_condB rfl (fun h9 => ?_) (fun h9 => ?_)
                · skip
                  refine GE_seq ?_
                  refine GE_slots (L' := []) trivial ?_
                  refine GE_plain (.st 0 (.st 1 .nil)) rfl ?_
                  refine GT_st rfl rfl rfl rfl (V_assign rfl rfl) ?_
                  refine GT_st rfl rfl rfl rfl (V_assign rfl rfl) ?_
                  refine GT_nil ?_
                  refine GE_ret Tryz.func39 ⟨_, _, rfl, rfl, rfl⟩ (fun w hw => ?_)
                  have e : gErr l p = 15 := (by rw [gErr, if_pos h1, if_neg (by omega), if_pos hall, if_neg (fun hP => by have := hP.1 j hjl; unfold posOk at this; omega)]); exact .inr ⟨by omega, by rw [e], hw.nil⟩
                · have hok : posOk p j := (by unfold posOk; omega)
                  refine GE_skip ?_
                  refine GE_seq ?_
                  refine GE_slots (L' := [(7, _), (11, _), (12, _), (74, _), (75, _), (76, _), (84, _), (85, _), (86, _), (87, _), (88, _), (89, _), (90, _), (91, _), (92, _), (93, _), (94, _), (95, _), (96, _), (97, _), (98, _), (99, _), (100, _), (101, _), (102, _), (103, _), (104, _), (105, _), (106, _), (107, _), (108, _), (109, _), (112, _), (113, _), (114, _), (115, _)]) ⟨rfl, rfl, rfl, rfl, rfl, rfl, rfl, rfl, rfl, rfl, rfl, rfl, rfl, rfl, rfl, rfl, rfl, rfl, rfl, rfl, rfl, rfl, rfl, rfl, rfl, rfl, rfl, rfl, rfl, rfl, rfl, rfl, rfl, rfl, rfl, rfl, trivial⟩ ?_
                  refine GE_plain (.st 0 (.st 1 .nil)) rfl ?_
                  refine GT_st rfl rfl rfl rfl (V_move rfl rfl) ?_
                  refine GT_st rfl rfl rfl rfl (V_gtr rfl rfl rfl) ?_
                  refine GT_nil ?_
                  first | refine GE_condNot rfl (fun h10 => ?_) (fun h10 => ?_) | refine GE_cond rfl (fun h10 => ?_) (fun h10 => ?_) | refine GE_condNotB rfl (fun h10 => ?_) (fun h10 => ?_) | refine GE_condB rfl (fun h10 => ?_) (fun h10 => ?_)
                  · skip
                    refine GE_plain (.st 0 (.st 1 (.st 2 (.st 3 (.st 4 (.st 5 (.st 6 (.st 7 (.st 8 (.st 9 .nil)))))))))) rfl ?_
                    refine GT_st rfl rfl rfl rfl (V_move rfl rfl) ?_
                    first | refine GT_st rfl rfl rfl rfl (V_nilCheck rfl rfl) ?_ | refine GT_st rfl rfl rfl rfl (V_nilCheck_func rfl rfl) ?_ | refine GT_st rfl rfl rfl rfl (V_nilCheck_yield rfl rfl) ?_
                    first | refine GT_st rfl rfl rfl rfl (V_field rfl rfl fo_101_1) ?_ | refine GT_st rfl rfl rfl rfl (V_fieldA rfl rfl fo_101_1) ?_
                    refine GT_st rfl rfl rfl rfl (V_load rfl rfl ag_99 (CellAt.item rfl)) ?_
                    refine GT_st rfl rfl rfl rfl (V_move rfl rfl) ?_
                    refine GT_st rfl rfl rfl rfl (V_sub rfl rfl rfl (wrap_i64 (by omega))) ?_
                    refine GT_st rfl rfl rfl rfl (V_index rfl rfl rfl Tryz.underlying99 sz_103 (k := j - 1) (by omega) (by omega) (hO.isSome (k := j) (by rw [plcs_len]; exact hjl))) ?_
                    first | refine GT_st rfl rfl rfl rfl (V_field rfl rfl fo_103_3) ?_ | refine GT_st rfl rfl rfl rfl (V_fieldA rfl rfl fo_103_3) ?_
                    refine GT_st rfl rfl rfl rfl (V_load rfl rfl ag_3 (CellAt.own (k := j - 1) hO ePlc_len (by rw [plcs_len]; omega) (by rw [plcs_get (by omega)]; exact (show (ePlc (plc p (j - 1)))[9]? = some (I (en p (j - 1))) from rfl)))) ?_
                    refine GT_st rfl rfl rfl rfl (V_assign rfl rfl) ?_
                    refine GT_nil ?_
                    refine GE_inBlock ?_
                    refine GE_slots (L' := [(7, _), (11, _), (74, _), (75, _), (76, _), (84, _), (85, _), (86, _), (87, _), (88, _), (89, _), (90, _), (91, _), (92, _), (93, _), (94, _), (95, _), (96, _), (97, _), (98, _), (99, _), (100, _), (101, _), (102, _), (103, _), (104, _), (105, _), (106, _), (107, _), (108, _), (109, _), (112, _), (113, _), (114, _), (115, _)]) ⟨rfl, rfl, rfl, rfl, rfl, rfl, rfl, rfl, rfl, rfl, rfl, rfl, rfl, rfl, rfl, rfl, rfl, rfl, rfl, rfl, rfl, rfl, rfl, rfl, rfl, rfl, rfl, rfl, rfl, rfl, rfl, rfl, rfl, rfl, rfl, trivial⟩ ?_
                    refine GE_plain (.st 0 (.ld 1 [] .nil)) rfl ?_
                    refine GT_st rfl rfl rfl rfl (V_add rfl rfl rfl (wrap_i64 (by omega))) ?_
                    refine GT_ldv rfl rfl rfl rfl rfl (V_move rfl rfl) (GR_nil) ?_
                    refine GT_nil ?_
                    first
                      | exact GE_to (ih2 (j + 1, en p (j - 1)) ⟨by dsimp only; omega, fun i hi => by rcases Nat.lt_or_ge i j with r | r; exact hps i r; rw [show i = j by dsimp only at hi; omega]; exact hok, fun q => by dsimp only at q; omega, fun _ => by dsimp only; rw [show j + 1 - 2 = j - 1 by omega]⟩ (by dsimp only; omega)) ⟨rfl, rfl, rfl, rfl, rfl, trivial⟩ (HS.cons rfl HS.last)
                      | exact GE_to (ih2 (j + 1, fr) ⟨by dsimp only; omega, fun i hi => by rcases Nat.lt_or_ge i j with r | r; exact hps i r; rw [show i = j by dsimp only at hi; omega]; exact hok, fun q => hf1 (by omega), fun q => by dsimp only at q; omega⟩ (by dsimp only; omega)) ⟨rfl, rfl, rfl, rfl, rfl, trivial⟩ (HS.cons rfl HS.last)
                  · skip
                    refine GE_skip ?_
                    refine GE_inBlock ?_
                    refine GE_plain (.st 0 (.ld 1 [] .nil)) rfl ?_
                    refine GT_st rfl rfl rfl rfl (V_add rfl rfl rfl (wrap_i64 (by omega))) ?_
                    refine GT_ldv rfl rfl rfl rfl rfl (V_move rfl rfl) (GR_nil) ?_
                    refine GT_nil ?_
                    first
                      | exact GE_to (ih2 (j + 1, en p (j - 1)) ⟨by dsimp only; omega, fun i hi => by rcases Nat.lt_or_ge i j with r | r; exact hps i r; rw [show i = j by dsimp only at hi; omega]; exact hok, fun q => by dsimp only at q; omega, fun _ => by dsimp only; rw [show j + 1 - 2 = j - 1 by omega]⟩ (by dsimp only; omega)) ⟨rfl, rfl, rfl, rfl, rfl, trivial⟩ (HS.cons rfl HS.last)
                      | exact GE_to (ih2 (j + 1, fr) ⟨by dsimp only; omega, fun i hi => by rcases Nat.lt_or_ge i j with r | r; exact hps i r; rw [show i = j by dsimp only at hi; omega]; exact hok, fun q => hf1 (by omega), fun q => by dsimp only at q; omega⟩ (by dsimp only; omega)) ⟨rfl, rfl, rfl, rfl, rfl, trivial⟩ (HS.cons rfl HS.last)
            · obtain rfl : j = p.length := (by omega)
              refine GE_exit rfl ?_
              refine GE_seq ?_
              refine GE_seq ?_
              refine GE_slots (L' := [(7, _)]) ⟨rfl, trivial⟩ ?_
              refine GE_plain (.st 0 (.st 1 (.st 2 (.st 3 (.st 4 .nil))))) rfl ?_
              refine GT_st rfl rfl rfl rfl (V_move rfl rfl) ?_
              first | refine GT_st rfl rfl rfl rfl (V_nilCheck rfl rfl) ?_ | refine GT_st rfl rfl rfl rfl (V_nilCheck_func rfl rfl) ?_ | refine GT_st rfl rfl rfl rfl (V_nilCheck_yield rfl rfl) ?_
              first | refine GT_st rfl rfl rfl rfl (V_field rfl rfl fo_101_2) ?_ | refine GT_st rfl rfl rfl rfl (V_fieldA rfl rfl fo_101_2) ?_
              refine GT_st rfl rfl rfl rfl (V_load rfl rfl ag_3 (CellAt.item rfl)) ?_
              refine GT_st rfl rfl rfl rfl (V_gtr rfl rfl rfl) ?_
              refine GT_nil ?_
              first | refine GE_condNot rfl (fun h11 => ?_) (fun h11 => ?_) | refine GE_cond rfl (fun h11 => ?_) (fun h11 => ?_) | refine GE_condNotB rfl (fun h11 => ?_) (fun h11 => ?_) | refine GE_condB rfl (fun h11 => ?_) (fun h11 => ?_)
              · skip
                refine GE_seq ?_
                refine GE_slots (L' := []) trivial ?_
                refine GE_plain (.st 0 (.st 1 .nil)) rfl ?_
                refine GT_st rfl rfl rfl rfl (V_assign rfl rfl) ?_
                refine GT_st rfl rfl rfl rfl (V_assign rfl rfl) ?_
                refine GT_nil ?_
                refine GE_ret Tryz.func39 ⟨_, _, rfl, rfl, rfl⟩ (fun w hw => ?_)
                have e : gErr l p = 15 := (by rw [gErr, if_pos h1, if_neg (by omega), if_pos hall, if_neg (fun hP => by have := hP.2; omega)]); exact .inr ⟨by omega, by rw [e], hw.nil⟩
              · skip
                refine GE_skip ?_
                refine GE_seq ?_
                refine GE_slots (L' := [(7, _)]) ⟨rfl, trivial⟩ ?_
                refine GE_plain (.st 0 (.st 1 (.st 2 .nil))) rfl ?_
                refine GT_st rfl rfl rfl rfl (V_move rfl rfl) ?_
                refine GT_st rfl rfl rfl rfl (V_assign rfl rfl) ?_
                refine GT_st rfl rfl rfl rfl (V_assign rfl rfl) ?_
                refine GT_nil ?_
                refine GE_ret Tryz.func39 ⟨_, _, rfl, rfl, rfl⟩ (fun w hw => ?_)
                first | exact .inl ⟨gErr_zero.2 ⟨hl, by omega, fun i hi => goodP_iff.1 (hgd i hi), hps, by omega⟩, b24, A', c', I', hO, rfl, hw⟩ | (have e : gErr l p = 15 := (by rw [gErr, if_pos h1, if_neg (by omega), if_pos hall, if_neg (fun hP => by have := hP.1 j hjl; unfold posOk at this; omega)]); exact .inr ⟨by omega, by rw [e], hw.nil⟩)
          · exact ⟨Nat.zero_le _, fun i hi => absurd hi (Nat.not_lt_zero _), fun _ => rfl, fun h => absurd h (by decide)⟩
      · exact ⟨Nat.zero_le _, fun i hi => absurd hi (Nat.not_lt_zero _), Own.nil⟩
end
end Go.Proofs.YtdcjgjopmicidaaGreatDoor
/- Sounds of samples, walked. -/
namespace Go.Proofs.YtdcjgjopmicidaaGreatDoor
open Go.Sx Go.Proofs Go.RowKit

/-- a sound, and the error of Sound -/
def sndE (l : List Tk) (p : List Prt) (i k : Int) : Int := if gErr l p = 0 then (if 0 ≤ i ∧ i < (p.length : Int) ∧ 0 ≤ k ∧ k < lng (pt p i.toNat) then 0 else 3) else gErr l p
def sndV (l : List Tk) (p : List Prt) (i k : Int) : Sam := if sndE l p i k = 0 then snd l (pt p i.toNat) k (pt p i.toNat).lev else ⟨0, 0⟩
section
variable {w : World} {A A2 : Option Addr} {c c2 : Nat} {l : List Tk} {p : List Prt}
theorem C_new_ok (h : Tks w A l) (hp : RdL w 7 ePrt A2 p) (hg : gErr l p = 0) : Con Tryz.prog 39 [.slice A l.length c, .slice A2 p.length c2] w (fun y : Nat × Option Addr × Nat × Items => Own 10 103 ePlc (plcs p p.length) (.slice y.2.1 p.length y.2.2.1) y.2.2.2)
    (fun y => .tuple #[ptr y.1 0, I 0]) (fun y => (y.1, blk [.slice A l.length c, .slice y.2.1 p.length y.2.2.1, I (fin p)] 101) :: y.2.2.2) :=
  (C_new h hp).mono fun v w' hr => by
    rcases hr with ⟨_, b, A', c', I', hO, e, hs⟩ | ⟨hn, _⟩
    · exact ⟨(b, A', c', I'), hO, e, hs⟩
    · exact absurd hg hn
theorem C_new_bad (h : Tks w A l) (hp : RdL w 7 ePrt A2 p) (hg : ¬ gErr l p = 0) : Con0 Tryz.prog 39 [.slice A l.length c, .slice A2 p.length c2] w (.tuple #[.pointer none, I (gErr l p)]) :=
  (C_new h hp).mono fun v w' hr => by
    rcases hr with ⟨hn, _⟩ | ⟨_, e, hs⟩
    · exact absurd hn hg
    · exact ⟨e, hs⟩
theorem C_CheckProgramme (h : Tks w A l) (hp : RdL w 7 ePrt A2 p) : Con0 Tryz.prog 18 [.slice A l.length c, .slice A2 p.length c2] w (I (gErr l p)) := by
  by_cases hg : gErr l p = 0
  · skip
    refine Ret_of (vs := [_, _]) hm none' Tryz.func18 rfl Tryz.ntmps18 rfl ?_
    dsimp only [slotsOf]
    refine GE_seq ?_
    refine GE_plain (.st 0 .nil) rfl ?_
    refine GT_st rfl rfl rfl rfl (V_assign rfl rfl) ?_
    refine GT_nil ?_
    refine GE_seq ?_
    refine GE_plain (.st 0 (.st 1 (.ld 2 [] (.st 3 (.st 4 (.st 5 (.st 6 (.st 7 .nil)))))))) rfl ?_
    refine GT_st rfl rfl rfl rfl (V_move rfl rfl) ?_
    refine GT_st rfl rfl rfl rfl (V_move rfl rfl) ?_
    refine GT_call rfl rfl rfl rfl rfl rfl rfl rfl rn_39 (fun w hw => C_new_ok (h.sh hw) (hp.sh hw) hg) (fun _ _ => GR_nil) (fun y hy => ?_)
    refine GT_st rfl rfl rfl rfl (V_move rfl rfl) ?_
    refine GT_st rfl rfl rfl rfl (V_extract rfl rfl rfl) ?_
    refine GT_st rfl rfl rfl rfl (V_extract rfl rfl rfl) ?_
    refine GT_st rfl rfl rfl rfl (V_assign rfl rfl) ?_
    refine GT_st rfl rfl rfl rfl (V_assign rfl rfl) ?_
    refine GT_nil ?_
    refine GE_seq ?_
    refine GE_slots (L' := [(6, _)]) ⟨rfl, trivial⟩ ?_
    refine GE_plain (.st 0 (.st 1 .nil)) rfl ?_
    refine GT_st rfl rfl rfl rfl (V_move rfl rfl) ?_
    refine GT_st rfl rfl rfl rfl (V_assign rfl rfl) ?_
    refine GT_nil ?_
    refine GE_ret Tryz.func18 rfl (fun w hw => ⟨?_, hw.nil⟩)
    rw [hg]; rfl
  · skip
    refine Ret_of (vs := [_, _]) hm none' Tryz.func18 rfl Tryz.ntmps18 rfl ?_
    dsimp only [slotsOf]
    refine GE_seq ?_
    refine GE_plain (.st 0 .nil) rfl ?_
    refine GT_st rfl rfl rfl rfl (V_assign rfl rfl) ?_
    refine GT_nil ?_
    refine GE_seq ?_
    refine GE_plain (.st 0 (.st 1 (.ld 2 [] (.st 3 (.st 4 (.st 5 (.st 6 (.st 7 .nil)))))))) rfl ?_
    refine GT_st rfl rfl rfl rfl (V_move rfl rfl) ?_
    refine GT_st rfl rfl rfl rfl (V_move rfl rfl) ?_
    refine GT_call0 rfl rfl rfl rfl rfl rfl rfl rfl rn_39 (fun w hw => C_new_bad (h.sh hw) (hp.sh hw) hg) (GR_nil) ?_
    refine GT_st rfl rfl rfl rfl (V_move rfl rfl) ?_
    refine GT_st rfl rfl rfl rfl (V_extract rfl rfl rfl) ?_
    refine GT_st rfl rfl rfl rfl (V_extract rfl rfl rfl) ?_
    refine GT_st rfl rfl rfl rfl (V_assign rfl rfl) ?_
    refine GT_st rfl rfl rfl rfl (V_assign rfl rfl) ?_
    refine GT_nil ?_
    refine GE_seq ?_
    refine GE_slots (L' := [(6, _)]) ⟨rfl, trivial⟩ ?_
    refine GE_plain (.st 0 (.st 1 .nil)) rfl ?_
    refine GT_st rfl rfl rfl rfl (V_move rfl rfl) ?_
    refine GT_st rfl rfl rfl rfl (V_assign rfl rfl) ?_
    refine GT_nil ?_
    refine GE_ret Tryz.func18 rfl (fun w hw => ⟨?_, hw.nil⟩)
    rfl
theorem C_sum {a b : Sam} (ha : a.bd 100000000) (hb : b.bd 100000000) : Con0 Tryz.prog 40 [.agg #[I a.l, I a.r], .agg #[I b.l, I b.r]] w (.agg #[I (sad a b).l, I (sad a b).r]) := by
  unfold Sam.bd at ha hb
  refine Ret_of (vs := [_, _]) hm none' Tryz.func40 rfl Tryz.ntmps40 rfl ?_
  dsimp only [slotsOf]
  refine GE_seq ?_
  refine GE_plain (.ld 0 [] (.ld 1 [] (.ld 2 [] .nil))) rfl ?_
  refine GT_box (z := [_, _]) rfl rfl rfl rfl rfl rfl rfl (fun _ => GR_nil) (fun b2 => ?_)
  refine GT_box (z := [_, _]) rfl rfl rfl rfl rfl rfl rfl (fun _ => GR_nil) (fun b3 => ?_)
  refine GT_alloc rfl rfl rfl rfl rfl zc_52 (fun _ => GR_nil) (fun b4 => ?_)
  refine GT_nil ?_
  refine GE_seq ?_
  refine GE_plain (.st 0 (.st 1 (.st 2 (.st 3 (.st 4 (.st 5 (.st 6 (.st 7 (.st 8 (.st 9 (.st 10 (.ld 11 [] .nil)))))))))))) rfl ?_
  first | refine GT_st rfl rfl rfl rfl (V_field rfl rfl fo_52_0) ?_ | refine GT_st rfl rfl rfl rfl (V_fieldA rfl rfl fo_52_0) ?_
  refine GT_st rfl rfl rfl rfl (V_load rfl rfl ag_2 (CellAt.item rfl)) ?_
  first | refine GT_st rfl rfl rfl rfl (V_field rfl rfl fo_52_0) ?_ | refine GT_st rfl rfl rfl rfl (V_fieldA rfl rfl fo_52_0) ?_
  refine GT_st rfl rfl rfl rfl (V_load rfl rfl ag_2 (CellAt.item rfl)) ?_
  refine GT_st rfl rfl rfl rfl (V_add rfl rfl rfl (wrap_i64 (by omega))) ?_
  first | refine GT_st rfl rfl rfl rfl (V_field rfl rfl fo_52_1) ?_ | refine GT_st rfl rfl rfl rfl (V_fieldA rfl rfl fo_52_1) ?_
  refine GT_st rfl rfl rfl rfl (V_load rfl rfl ag_2 (CellAt.item rfl)) ?_
  first | refine GT_st rfl rfl rfl rfl (V_field rfl rfl fo_52_1) ?_ | refine GT_st rfl rfl rfl rfl (V_fieldA rfl rfl fo_52_1) ?_
  refine GT_st rfl rfl rfl rfl (V_load rfl rfl ag_2 (CellAt.item rfl)) ?_
  refine GT_st rfl rfl rfl rfl (V_add rfl rfl rfl (wrap_i64 (by omega))) ?_
  refine GT_st rfl rfl rfl rfl (V_build (vs := [_, _]) rfl rfl zc_52 pl_52 sa_52 rfl) ?_
  refine GT_store (vs := [_, _]) (l' := [_, _]) rfl rfl rfl rfl rfl rfl rfl sz_52 rfl rfl (Nat.le_of_ble_eq_true rfl) rfl (GR_nil) ?_
  refine GT_nil ?_
  refine GE_ret Tryz.func40 ⟨_, rfl, fun w m => run_loadVar_agg (vs := [_, _]) ag_52 sz_52 rfl (fun j v hj => CellsAt.item rfl j v hj w m)⟩ (fun w hw => ⟨?_, hw.nil⟩)
  rfl
theorem C_amounts {a : Sam} (ha : a.bd 100000000) : Con0 Tryz.prog 45 [.agg #[I a.l, I a.r]] w (.agg #[I a.amts.l, I a.amts.r]) := by
  unfold Sam.bd at ha
  refine Ret_of (vs := [_]) hm none' Tryz.func45 rfl Tryz.ntmps45 rfl ?_
  dsimp only [slotsOf]
  refine GE_seq ?_
  refine GE_plain (.ld 0 [] (.ld 1 [] .nil)) rfl ?_
  refine GT_box (z := [_, _]) rfl rfl rfl rfl rfl rfl rfl (fun _ => GR_nil) (fun b1 => ?_)
  refine GT_alloc rfl rfl rfl rfl rfl zc_52 (fun _ => GR_nil) (fun b2 => ?_)
  refine GT_nil ?_
  refine GE_seq ?_
  refine GE_plain (.st 0 (.st 1 (.st 2 (.st 3 (.st 4 (.st 5 (.st 6 (.st 7 (.st 8 (.st 9 (.st 10 (.st 11 (.st 12 (.ld 13 [] .nil)))))))))))))) rfl ?_
  first | refine GT_st rfl rfl rfl rfl (V_field rfl rfl fo_52_0) ?_ | refine GT_st rfl rfl rfl rfl (V_fieldA rfl rfl fo_52_0) ?_
  refine GT_st rfl rfl rfl rfl (V_load rfl rfl ag_2 (CellAt.item rfl)) ?_
  first | refine GT_st rfl rfl rfl rfl (V_field rfl rfl fo_52_0) ?_ | refine GT_st rfl rfl rfl rfl (V_fieldA rfl rfl fo_52_0) ?_
  refine GT_st rfl rfl rfl rfl (V_load rfl rfl ag_2 (CellAt.item rfl)) ?_
  refine GT_st rfl rfl rfl rfl (V_neg rfl rfl (wrap_i64 (by omega))) ?_
  refine GT_st rfl rfl rfl rfl (V_max rfl rfl rfl) ?_
  first | refine GT_st rfl rfl rfl rfl (V_field rfl rfl fo_52_1) ?_ | refine GT_st rfl rfl rfl rfl (V_fieldA rfl rfl fo_52_1) ?_
  refine GT_st rfl rfl rfl rfl (V_load rfl rfl ag_2 (CellAt.item rfl)) ?_
  first | refine GT_st rfl rfl rfl rfl (V_field rfl rfl fo_52_1) ?_ | refine GT_st rfl rfl rfl rfl (V_fieldA rfl rfl fo_52_1) ?_
  refine GT_st rfl rfl rfl rfl (V_load rfl rfl ag_2 (CellAt.item rfl)) ?_
  refine GT_st rfl rfl rfl rfl (V_neg rfl rfl (wrap_i64 (by omega))) ?_
  refine GT_st rfl rfl rfl rfl (V_max rfl rfl rfl) ?_
  refine GT_st rfl rfl rfl rfl (V_build (vs := [_, _]) rfl rfl zc_52 pl_52 sa_52 rfl) ?_
  refine GT_store (vs := [_, _]) (l' := [_, _]) rfl rfl rfl rfl rfl rfl rfl sz_52 rfl rfl (Nat.le_of_ble_eq_true rfl) rfl (GR_nil) ?_
  refine GT_nil ?_
  refine GE_ret Tryz.func45 ⟨_, rfl, fun w m => run_loadVar_agg (vs := [_, _]) ag_52 sz_52 rfl (fun j v hj => CellsAt.item rfl j v hj w m)⟩ (fun w hw => ⟨?_, hw.nil⟩)
  refine congrArg Value.agg ?_; simp [Sam.amts, amt]
theorem C_gain {i : Nat} (hi : i < p.length) (hg : ProgOk l p) {k lev : Int} (h0 : 0 ≤ k) (h1 : k < lng (pt p i)) (h2 : 0 ≤ lev) (h3 : lev ≤ 16000) :
    Con0 Tryz.prog 61 [.agg #[I (pt p i).tk, I (pt p i).fr, I (pt p i).to, I (pt p i).gap, I (pt p i).inn, I (pt p i).out, I (pt p i).lev, I i, I (bgn p i), I (en p i)], I k, I lev] w (.agg #[I (gnN (pt p i) k lev), I (gnD (pt p i))]) := by
  have ho := hg.each i hi
  have hu := up_bd ho h0
  have hd := dn_bd ho h1
  have hin := ho.inn
  have hout := ho.out
  have hD := gnD_pos ho
  have hb := bgn_mono hg i hi
  have he := en_fin hg hi
  have hf := hg.fin
  have hen : en p i = bgn p i + lng (pt p i) := rfl
  have m1 := mul_bd h2 h3 (b := up (pt p i) k) (B := 1001) (by omega) (by omega)
  have m2 := mul_bd m1.1 m1.2 (b := dn (pt p i) k) (B := 1001) (by omega) (by omega)
  refine Ret_of (vs := [_, _, _]) hm none' Tryz.func61 rfl Tryz.ntmps61 rfl ?_
  dsimp only [slotsOf]
  refine GE_seq ?_
  refine GE_plain (.ld 0 [] (.ld 1 [] .nil)) rfl ?_
  refine GT_box (z := [_, _, _, _, _, _, _, _, _, _]) rfl rfl rfl rfl rfl rfl rfl (fun _ => GR_nil) (fun b3 => ?_)
  refine GT_alloc rfl rfl rfl rfl rfl zc_122 (fun _ => GR_nil) (fun b6 => ?_)
  refine GT_nil ?_
  refine GE_seq ?_
  refine GE_drawn (.st 0 (.st 1 (.st 2 (.st 3 (.st 4 (.st 5 (.st 6 (.st 7 (.st 8 (.st 9 (.st 10 (.st 11 (.st 12 (.st 13 (.st 14 (.st 15 (.st 16 (.st 17 (.st 18 (.st 19 (.st 20 .nil))))))))))))))))))))) [] (by decide +kernel) ?_
  refine GT_st rfl rfl rfl rfl (V_move rfl rfl) ?_
  first | refine GT_st rfl rfl rfl rfl (V_field rfl rfl fo_103_0) ?_ | refine GT_st rfl rfl rfl rfl (V_fieldA rfl rfl fo_103_0) ?_
  first | refine GT_st rfl rfl rfl rfl (V_field rfl rfl fo_59_4) ?_ | refine GT_st rfl rfl rfl rfl (V_fieldA rfl rfl fo_59_4) ?_
  refine GT_st rfl rfl rfl rfl (V_load rfl rfl ag_3 (CellAt.item rfl)) ?_
  refine GT_st rfl rfl rfl rfl (V_min rfl rfl rfl) ?_
  refine GT_st rfl rfl rfl rfl (V_add rfl rfl rfl ((wrap_i64 (by omega)).trans (show _ = up (pt p i) k from rfl))) ?_
  first | refine GT_st rfl rfl rfl rfl (V_field rfl rfl fo_103_3) ?_ | refine GT_st rfl rfl rfl rfl (V_fieldA rfl rfl fo_103_3) ?_
  refine GT_st rfl rfl rfl rfl (V_load rfl rfl ag_3 (CellAt.item rfl)) ?_
  first | refine GT_st rfl rfl rfl rfl (V_field rfl rfl fo_103_2) ?_ | refine GT_st rfl rfl rfl rfl (V_fieldA rfl rfl fo_103_2) ?_
  refine GT_st rfl rfl rfl rfl (V_load rfl rfl ag_3 (CellAt.item rfl)) ?_
  refine GT_st rfl rfl rfl rfl (V_sub rfl rfl rfl (wrap_i64 (by omega))) ?_
  refine GT_st rfl rfl rfl rfl (V_move rfl rfl) ?_
  refine GT_st rfl rfl rfl rfl (V_sub rfl rfl rfl (wrap_i64 (by omega))) ?_
  refine GT_st rfl rfl rfl rfl (V_sub rfl rfl rfl (wrap_i64 (by omega))) ?_
  first | refine GT_st rfl rfl rfl rfl (V_field rfl rfl fo_103_0) ?_ | refine GT_st rfl rfl rfl rfl (V_fieldA rfl rfl fo_103_0) ?_
  first | refine GT_st rfl rfl rfl rfl (V_field rfl rfl fo_59_5) ?_ | refine GT_st rfl rfl rfl rfl (V_fieldA rfl rfl fo_59_5) ?_
  refine GT_st rfl rfl rfl rfl (V_load rfl rfl ag_3 (CellAt.item rfl)) ?_
  refine GT_st rfl rfl rfl rfl (V_min rfl rfl rfl) ?_
  refine GT_st rfl rfl rfl rfl (V_add rfl rfl rfl ((wrap_i64 (by omega)).trans (show _ = dn (pt p i) k by unfold dn; rw [hen]; omega))) ?_
  refine GT_st rfl rfl rfl rfl (V_assign rfl rfl) ?_
  refine GT_st rfl rfl rfl rfl (V_assign rfl rfl) ?_
  refine GT_nil ?_
  refine GE_seq ?_
  refine GE_slots (L' := [(2, _), (3, _), (6, _), (7, _), (8, _)]) ⟨rfl, rfl, rfl, rfl, rfl, trivial⟩ ?_
  refine GE_plain (.st 0 (.st 1 (.st 2 (.st 3 (.st 4 (.st 5 (.st 6 (.st 7 (.st 8 (.st 9 (.st 10 (.st 11 (.st 12 (.st 13 (.st 14 (.st 15 (.ld 16 [] .nil))))))))))))))))) rfl ?_
  refine GT_st rfl rfl rfl rfl (V_move rfl rfl) ?_
  refine GT_st rfl rfl rfl rfl (V_move rfl rfl) ?_
  refine GT_st rfl rfl rfl rfl (V_mul rfl rfl rfl (wrap_i64 (by omega))) ?_
  refine GT_st rfl rfl rfl rfl (V_move rfl rfl) ?_
  refine GT_st rfl rfl rfl rfl (V_mul rfl rfl rfl ((wrap_i64 (by omega)).trans (show _ = gnN (pt p i) k lev from rfl))) ?_
  first | refine GT_st rfl rfl rfl rfl (V_field rfl rfl fo_103_0) ?_ | refine GT_st rfl rfl rfl rfl (V_fieldA rfl rfl fo_103_0) ?_
  first | refine GT_st rfl rfl rfl rfl (V_field rfl rfl fo_59_4) ?_ | refine GT_st rfl rfl rfl rfl (V_fieldA rfl rfl fo_59_4) ?_
  refine GT_st rfl rfl rfl rfl (V_load rfl rfl ag_3 (CellAt.item rfl)) ?_
  refine GT_st rfl rfl rfl rfl (V_add rfl rfl rfl (wrap_i64 (by omega))) ?_
  refine GT_st rfl rfl rfl rfl (V_mul rfl rfl rfl (wrap_i64 (by omega))) ?_
  first | refine GT_st rfl rfl rfl rfl (V_field rfl rfl fo_103_0) ?_ | refine GT_st rfl rfl rfl rfl (V_fieldA rfl rfl fo_103_0) ?_
  first | refine GT_st rfl rfl rfl rfl (V_field rfl rfl fo_59_5) ?_ | refine GT_st rfl rfl rfl rfl (V_fieldA rfl rfl fo_59_5) ?_
  refine GT_st rfl rfl rfl rfl (V_load rfl rfl ag_3 (CellAt.item rfl)) ?_
  refine GT_st rfl rfl rfl rfl (V_add rfl rfl rfl (wrap_i64 (by omega))) ?_
  refine GT_st rfl rfl rfl rfl (V_mul rfl rfl rfl ((wrap_i64 (by unfold gnD at hD; omega)).trans (show _ = gnD (pt p i) from rfl))) ?_
  refine GT_st rfl rfl rfl rfl (V_build (vs := [_, _]) rfl rfl zc_122 pl_122 sa_122 rfl) ?_
  refine GT_store (vs := [_, _]) (l' := [_, _]) rfl rfl rfl rfl rfl rfl rfl sz_122 rfl rfl (Nat.le_of_ble_eq_true rfl) rfl (GR_nil) ?_
  refine GT_nil ?_
  refine GE_ret Tryz.func61 ⟨_, rfl, fun w m => run_loadVar_agg (vs := [_, _]) ag_122 sz_122 rfl (fun j v hj => CellsAt.item rfl j v hj w m)⟩ (fun w hw => ⟨?_, hw.nil⟩)
  rfl
theorem C_of {n d s : Int} (hd : 1 ≤ d) (h : amt (s * n) ≤ 9000000000000000000) : Con0 Tryz.prog 62 [.agg #[I n, I d], I s] w (I ((s * n).tdiv d)) := by
  have hq : amt ((s * n).tdiv d) ≤ amt (s * n) := by
    have := tdiv_bd (a := s * n) (d := d) (c := 1000 * amt (s * n)) (by omega) (by have := amt_nonneg (s * n); omega) (by
      have h0 := amt_nonneg (s * n)
      have := Int.mul_le_mul_of_nonneg_left hd (show 0 ≤ 1000 * amt (s * n) by omega)
      rw [Int.mul_one] at this
      exact this)
    omega
  unfold amt at h hq
  refine Ret_of (vs := [_, _]) hm none' Tryz.func62 rfl Tryz.ntmps62 rfl ?_
  dsimp only [slotsOf]
  refine GE_seq ?_
  refine GE_plain (.ld 0 [] (.st 1 .nil)) rfl ?_
  refine GT_box (z := [_, _]) rfl rfl rfl rfl rfl rfl rfl (fun _ => GR_nil) (fun b2 => ?_)
  refine GT_st rfl rfl rfl rfl (V_assign rfl rfl) ?_
  refine GT_nil ?_
  refine GE_seq ?_
  refine GE_plain (.st 0 (.st 1 (.st 2 (.st 3 (.st 4 (.st 5 (.st 6 (.st 7 .nil)))))))) rfl ?_
  refine GT_st rfl rfl rfl rfl (V_move rfl rfl) ?_
  first | refine GT_st rfl rfl rfl rfl (V_field rfl rfl fo_122_0) ?_ | refine GT_st rfl rfl rfl rfl (V_fieldA rfl rfl fo_122_0) ?_
  refine GT_st rfl rfl rfl rfl (V_load rfl rfl ag_2 (CellAt.item rfl)) ?_
  refine GT_st rfl rfl rfl rfl (V_mul rfl rfl rfl (wrap_i64 (by omega))) ?_
  first | refine GT_st rfl rfl rfl rfl (V_field rfl rfl fo_122_1) ?_ | refine GT_st rfl rfl rfl rfl (V_fieldA rfl rfl fo_122_1) ?_
  refine GT_st rfl rfl rfl rfl (V_load rfl rfl ag_2 (CellAt.item rfl)) ?_
  refine GT_st rfl rfl rfl rfl (V_quo rfl rfl rfl (by omega) (wrap_i64 (by omega))) ?_
  refine GT_st rfl rfl rfl rfl (V_assign rfl rfl) ?_
  refine GT_nil ?_
  refine GE_ret Tryz.func62 rfl (fun w hw => ⟨?_, hw.nil⟩)
  rfl
theorem C_sound {i g : Nat} {X Y : Value} (hi : i < p.length) (hg : ProgOk l p) {k lev : Int} (h0 : 0 ≤ k) (h1 : k < lng (pt p i)) (h2 : 0 ≤ lev) (h3 : lev ≤ 16000) (h : Tks w A l) (hb : BlkAt w g [.slice A l.length c, X, Y] 101) :
    Con0 Tryz.prog 41 [ptr g 0, .agg #[I (pt p i).tk, I (pt p i).fr, I (pt p i).to, I (pt p i).gap, I (pt p i).inn, I (pt p i).out, I (pt p i).lev, I i, I (bgn p i), I (en p i)], I k, I lev] w (.agg #[I (snd l (pt p i) k lev).l, I (snd l (pt p i) k lev).r]) := by
  have ho := hg.each i hi
  have hsm := smp_ok hg.tks ho h0 h1
  obtain ⟨q1, q2, q3, q4⟩ := hsm
  have hD := gnD_pos ho
  have hN := gnN_bd ho h0 h1 h2
  have hdat := (h.2 _ (getD_mem q2)).1
  have hfr := ho.fr0
  have hfr1 := ho.frto
  have hto := ho.to1
  have htk := ho.tk0
  have hlen : (tkOf l (pt p i)).data.length ≤ 4096 := (tErr_zero.1 (hg.tks.each _ (getD_mem q2))).1
  have hk : k < (pt p i).to - (pt p i).fr := h1
  have hgn : gnN (pt p i) k lev ≤ 16032016000 := by
    have m := mul_bd h2 h3 (b := gnD (pt p i)) (B := 1002001000) (by omega) hD.2
    omega
  have hb1 : amt ((smp l (pt p i) k).l * gnN (pt p i) k lev) ≤ 9000000000000000000 := by
    rw [amt_mul hN.1]; have := mul_bd (amt_nonneg (smp l (pt p i) k).l) (A := 32767) (by unfold amt; omega) hN.1 hgn; omega
  have hb2 : amt ((smp l (pt p i) k).r * gnN (pt p i) k lev) ≤ 9000000000000000000 := by
    rw [amt_mul hN.1]; have := mul_bd (amt_nonneg (smp l (pt p i) k).r) (A := 32767) (by unfold amt; omega) hN.1 hgn; omega
  refine Ret_of (vs := [_, _, _, _]) hm none' Tryz.func41 rfl Tryz.ntmps41 rfl ?_
  dsimp only [slotsOf]
  refine GE_seq ?_
  refine GE_plain (.ld 0 [] (.ld 1 [] .nil)) rfl ?_
  refine GT_box (z := [_, _, _, _, _, _, _, _, _, _]) rfl rfl rfl rfl rfl rfl rfl (fun _ => GR_nil) (fun b5 => ?_)
  refine GT_alloc rfl rfl rfl rfl rfl zc_52 (fun _ => GR_nil) (fun b8 => ?_)
  refine GT_nil ?_
  refine GE_seq ?_
  refine GE_plain (.st 0 (.st 1 (.st 2 (.ld 3 [] (.st 4 (.st 5 .nil)))))) rfl ?_
  refine GT_st rfl rfl rfl rfl (V_loadN (vs := [_, _, _, _, _, _, _, _, _, _]) rfl rfl ag_103 sz_103 rfl (CellsAt.item rfl)) ?_
  refine GT_st rfl rfl rfl rfl (V_move rfl rfl) ?_
  refine GT_st rfl rfl rfl rfl (V_move rfl rfl) ?_
  refine GT_call0 rfl rfl rfl rfl rfl rfl rfl rfl rn_61 (fun w hw => C_gain hi hg h0 h1 h2 h3) (GR_nil) ?_
  refine GT_st rfl rfl rfl rfl (V_makeFunc rfl rfl rfl) ?_
  refine GT_st rfl rfl rfl rfl (V_assign rfl rfl) ?_
  refine GT_nil ?_
  refine GE_seq ?_
  refine GE_slots (L' := [(0, _), (2, _), (5, _), (8, _), (9, _)]) ⟨rfl, rfl, rfl, rfl, rfl, trivial⟩ ?_
  refine GE_drawn (.st 0 (.st 1 (.st 2 (.st 3 (.st 4 (.st 5 (.st 6 (.st 7 (.st 8 (.st 9 (.st 10 (.st 11 (.st 12 (.st 13 (.st 14 (.st 15 (.st 16 (.ld 17 [0, 1, 2, 3, 4, 5, 6, 7, 8, 9, 10, 11, 12, 13, 14, 15, 16] (.ld 18 [] .nil))))))))))))))))))) [17, 18] (by decide +kernel) ?_
  refine GT_st rfl rfl rfl rfl (V_move rfl rfl) ?_
  first | refine GT_st rfl rfl rfl rfl (V_nilCheck rfl rfl) ?_ | refine GT_st rfl rfl rfl rfl (V_nilCheck_func rfl rfl) ?_ | refine GT_st rfl rfl rfl rfl (V_nilCheck_yield rfl rfl) ?_
  first | refine GT_st rfl rfl rfl rfl (V_field rfl rfl fo_101_0) ?_ | refine GT_st rfl rfl rfl rfl (V_fieldA rfl rfl fo_101_0) ?_
  refine GT_st rfl rfl rfl rfl (V_load rfl rfl ag_22 (.old (hb.cell rfl) (noM _))) ?_
  first | refine GT_st rfl rfl rfl rfl (V_field rfl rfl fo_103_0) ?_ | refine GT_st rfl rfl rfl rfl (V_fieldA rfl rfl fo_103_0) ?_
  first | refine GT_st rfl rfl rfl rfl (V_field rfl rfl fo_59_0) ?_ | refine GT_st rfl rfl rfl rfl (V_fieldA rfl rfl fo_59_0) ?_
  refine GT_st rfl rfl rfl rfl (V_load rfl rfl ag_3 (CellAt.item rfl)) ?_
  refine GT_st rfl rfl rfl rfl (V_index rfl rfl rfl Tryz.underlying22 sz_39 (k := (pt p i).tk.toNat) (by omega) q2 (h.1.isSome q2)) ?_
  first | refine GT_st rfl rfl rfl rfl (V_field rfl rfl fo_39_1) ?_ | refine GT_st rfl rfl rfl rfl (V_fieldA rfl rfl fo_39_1) ?_
  refine GT_st rfl rfl rfl rfl (V_load rfl rfl ag_37 (h.1.at1 noM q2 rfl)) ?_
  first | refine GT_st rfl rfl rfl rfl (V_field rfl rfl fo_103_0) ?_ | refine GT_st rfl rfl rfl rfl (V_fieldA rfl rfl fo_103_0) ?_
  first | refine GT_st rfl rfl rfl rfl (V_field rfl rfl fo_59_1) ?_ | refine GT_st rfl rfl rfl rfl (V_fieldA rfl rfl fo_59_1) ?_
  refine GT_st rfl rfl rfl rfl (V_load rfl rfl ag_3 (CellAt.item rfl)) ?_
  refine GT_st rfl rfl rfl rfl (V_move rfl rfl) ?_
  refine GT_st rfl rfl rfl rfl (V_add rfl rfl rfl (wrap_i64 (by omega))) ?_
  refine GT_st rfl rfl rfl rfl (V_index rfl rfl rfl Tryz.underlying37 sz_52 (k := ((pt p i).fr + k).toNat) (by omega) q1 (hdat.isSome q1)) ?_
  refine GT_st rfl rfl rfl rfl (V_loadN (vs := [_, _]) rfl rfl ag_52 sz_52 rfl (show CellsAt _ _ _ (eSam (smp l (pt p i) k)) from hdat.ats noM q1)) ?_
  refine GT_alloc rfl rfl rfl rfl rfl zc_52 (fun _ => GR_cons rfl rfl rfl rfl (V_move rfl rfl) (GR_cons rfl rfl rfl rfl ((by first | exact V_nilCheck rfl rfl | exact V_nilCheck_func rfl rfl | exact V_nilCheck_yield rfl rfl)) (GR_cons rfl rfl rfl rfl ((by first | exact V_field rfl rfl fo_101_0 | exact V_fieldA rfl rfl fo_101_0)) (GR_cons rfl rfl rfl rfl (V_load rfl rfl ag_22 (.old (hb.cell rfl) (noM _))) (GR_cons rfl rfl rfl rfl ((by first | exact V_field rfl rfl fo_103_0 | exact V_fieldA rfl rfl fo_103_0)) (GR_cons rfl rfl rfl rfl ((by first | exact V_field rfl rfl fo_59_0 | exact V_fieldA rfl rfl fo_59_0)) (GR_cons rfl rfl rfl rfl (V_load rfl rfl ag_3 (CellAt.item rfl)) (GR_cons rfl rfl rfl rfl (V_index rfl rfl rfl Tryz.underlying22 sz_39 (k := (pt p i).tk.toNat) (by omega) q2 (h.1.isSome q2)) (GR_cons rfl rfl rfl rfl ((by first | exact V_field rfl rfl fo_39_1 | exact V_fieldA rfl rfl fo_39_1)) (GR_cons rfl rfl rfl rfl (V_load rfl rfl ag_37 (h.1.at1 noM q2 rfl)) (GR_cons rfl rfl rfl rfl ((by first | exact V_field rfl rfl fo_103_0 | exact V_fieldA rfl rfl fo_103_0)) (GR_cons rfl rfl rfl rfl ((by first | exact V_field rfl rfl fo_59_1 | exact V_fieldA rfl rfl fo_59_1)) (GR_cons rfl rfl rfl rfl (V_load rfl rfl ag_3 (CellAt.item rfl)) (GR_cons rfl rfl rfl rfl (V_move rfl rfl) (GR_cons rfl rfl rfl rfl (V_add rfl rfl rfl (wrap_i64 (by omega))) (GR_cons rfl rfl rfl rfl (V_index rfl rfl rfl Tryz.underlying37 sz_52 (k := ((pt p i).fr + k).toNat) (by omega) q1 (hdat.isSome q1)) (GR_cons rfl rfl rfl rfl (V_loadN (vs := [_, _]) rfl rfl ag_52 sz_52 rfl (show CellsAt _ _ _ (eSam (smp l (pt p i) k)) from hdat.ats noM q1)) (GR_nil)))))))))))))))))) (fun b10 => ?_)
  refine GT_store (vs := [_, _]) (l' := [_, _]) rfl rfl rfl rfl rfl rfl rfl sz_52 rfl rfl (Nat.le_of_ble_eq_true rfl) rfl (GR_nil) ?_
  refine GT_nil ?_
  refine GE_seq ?_
  refine GE_slots (L' := [(8, _), (9, _), (10, _)]) ⟨rfl, rfl, rfl, trivial⟩ ?_
  refine GE_drawn (.st 0 (.st 1 (.st 2 (.st 4 (.st 5 (.st 6 (.ld 3 [4, 5, 6] (.ld 7 [] (.st 8 (.ld 9 [] .nil)))))))))) [3, 7, 9] (by decide +kernel) ?_
  refine GT_st rfl rfl rfl rfl (V_move rfl rfl) ?_
  first | refine GT_st rfl rfl rfl rfl (V_field rfl rfl fo_52_0) ?_ | refine GT_st rfl rfl rfl rfl (V_fieldA rfl rfl fo_52_0) ?_
  refine GT_st rfl rfl rfl rfl (V_load rfl rfl ag_2 (CellAt.item rfl)) ?_
  refine GT_st rfl rfl rfl rfl (V_move rfl rfl) ?_
  first | refine GT_st rfl rfl rfl rfl (V_field rfl rfl fo_52_1) ?_ | refine GT_st rfl rfl rfl rfl (V_fieldA rfl rfl fo_52_1) ?_
  refine GT_st rfl rfl rfl rfl (V_load rfl rfl ag_2 (CellAt.item rfl)) ?_
  refine GT_call0 rfl rfl rfl rfl rfl rfl rfl rfl rn_62 (fun w hw => C_of (by omega) hb1) (GR_cons rfl rfl rfl rfl (V_move rfl rfl) (GR_cons rfl rfl rfl rfl ((by first | exact V_field rfl rfl fo_52_1 | exact V_fieldA rfl rfl fo_52_1)) (GR_cons rfl rfl rfl rfl (V_load rfl rfl ag_2 (CellAt.item rfl)) (GR_nil)))) ?_
  refine GT_call0 rfl rfl rfl rfl rfl rfl rfl rfl rn_62 (fun w hw => C_of (by omega) hb2) (GR_nil) ?_
  refine GT_st rfl rfl rfl rfl (V_build (vs := [_, _]) rfl rfl zc_52 pl_52 sa_52 rfl) ?_
  refine GT_store (vs := [_, _]) (l' := [_, _]) rfl rfl rfl rfl rfl rfl rfl sz_52 rfl rfl (Nat.le_of_ble_eq_true rfl) rfl (GR_nil) ?_
  refine GT_nil ?_
  refine GE_ret Tryz.func41 ⟨_, rfl, fun w m => run_loadVar_agg (vs := [_, _]) ag_52 sz_52 rfl (fun j v hj => CellsAt.item rfl j v hj w m)⟩ (fun w hw => ⟨?_, hw.nil⟩)
  rfl
end
end Go.Proofs.YtdcjgjopmicidaaGreatDoor
/- Programmes are rendered, walked. -/
namespace Go.Proofs.YtdcjgjopmicidaaGreatDoor
open Go.Sx Go.Proofs Go.RowKit

section
variable {w : World} {A A2 : Option Addr} {c c2 : Nat} {l : List Tk} {p : List Prt}
theorem vR_bd (hg : ProgOk l p) : ∀ i k, i < p.length → 0 ≤ k → k < lng (pt p i) → (vR l p i k).bd 1000000 := by
  intro i k hi h0 h1
  have ho := hg.each i hi
  exact snd_bd hg.tks ho h0 h1 ho.lev.1 (by have := ho.lev.2; omega)
theorem mixN_bd8 {v : Nat → Int → Sam} (hg : ProgOk l p) (hv : ∀ i k, i < p.length → 0 ≤ k → k < lng (pt p i) → (v i k).bd 1000000) {i : Nat} (hi : i ≤ p.length) (t : Int) : (mixN p v i t).bd 100000000 := by
  have h := mixN_bd (B := 1000000) (by decide) i t hi hv
  have := hg.most
  exact Sam.bd.mono h (by omega)
set_option maxRecDepth 10000 in
set_option maxHeartbeats 2000000 in
theorem C_Render (h : Tks w A l) (hp : RdL w 7 ePrt A2 p) : Con Tryz.prog 16 [.slice A l.length c, .slice A2 p.length c2] w (fun y : Option Addr × Nat × Items => Own 2 52 eSam (rendL l p) (.slice y.1 (rendL l p).length y.2.1) y.2.2)
    (fun y => .tuple #[.slice y.1 (rendL l p).length y.2.1, I (rErr l p)]) (fun y => y.2.2) := by
  by_cases hg : gErr l p = 0
  · have hP := gErr_zero.1 hg
    have hfl := hP.fin
    have hf0 := fin_nonneg hP
    have hml : (rend l p).length = (fin p).toNat := mix_len p (vR l p)
    have hpm := hP.most
    refine Ret_of (vs := [_, _]) hm none' Tryz.func16 rfl Tryz.ntmps16 rfl ?_
    dsimp only [slotsOf]
    refine GE_seq ?_
    refine GE_plain (.st 0 (.st 1 .nil)) rfl ?_
    refine GT_st rfl rfl rfl rfl (V_assign rfl rfl) ?_
    refine GT_st rfl rfl rfl rfl (V_assign rfl rfl) ?_
    refine GT_nil ?_
    refine GE_seq ?_
    refine GE_plain (.st 0 (.st 1 (.ld 2 [] (.st 3 (.st 4 (.st 5 (.st 6 (.st 7 .nil)))))))) rfl ?_
    refine GT_st rfl rfl rfl rfl (V_move rfl rfl) ?_
    refine GT_st rfl rfl rfl rfl (V_move rfl rfl) ?_
    refine GT_call rfl rfl rfl rfl rfl rfl rfl rfl rn_39 (fun w hw => C_new_ok (h.sh hw) (hp.sh hw) hg) (fun _ _ => GR_nil) (fun y hy => ?_)
    refine GT_st rfl rfl rfl rfl (V_move rfl rfl) ?_
    refine GT_st rfl rfl rfl rfl (V_extract rfl rfl rfl) ?_
    refine GT_st rfl rfl rfl rfl (V_extract rfl rfl rfl) ?_
    refine GT_st rfl rfl rfl rfl (V_assign rfl rfl) ?_
    refine GT_st rfl rfl rfl rfl (V_assign rfl rfl) ?_
    refine GT_nil ?_
    refine GE_seq ?_
    refine GE_seq ?_
    refine GE_slots (L' := [(6, _), (7, _)]) ⟨rfl, rfl, trivial⟩ ?_
    refine GE_plain (.st 0 (.st 1 .nil)) rfl ?_
    refine GT_st rfl rfl rfl rfl (V_move rfl rfl) ?_
    refine GT_st rfl rfl rfl rfl (V_isF (V_neq rfl rfl rfl) (by decide)) ?_
    refine GT_nil ?_
    refine GE_cond_f rfl ?_
    refine GE_skip ?_
    refine GE_seq ?_
    refine GE_plain (.st 0 (.st 1 (.st 2 (.st 3 (.ld 4 [] (.st 5 .nil)))))) rfl ?_
    refine GT_st rfl rfl rfl rfl (V_move rfl rfl) ?_
    first | refine GT_st rfl rfl rfl rfl (V_nilCheck rfl rfl) ?_ | refine GT_st rfl rfl rfl rfl (V_nilCheck_func rfl rfl) ?_ | refine GT_st rfl rfl rfl rfl (V_nilCheck_yield rfl rfl) ?_
    first | refine GT_st rfl rfl rfl rfl (V_field rfl rfl fo_101_2) ?_ | refine GT_st rfl rfl rfl rfl (V_fieldA rfl rfl fo_101_2) ?_
    refine GT_st rfl rfl rfl rfl (V_load rfl rfl ag_3 (CellAt.item rfl)) ?_
    refine GT_makeSlice rfl rfl rfl rfl rfl rfl rfl Tryz.underlying37 zc_52 sz_52 by_52 (nn := (fin p).toNat) ⟨by omega, by omega, rfl⟩ ⟨by omega, by omega⟩ (fun _ => GR_nil) (fun b25 => ?_)
    refine GT_st rfl rfl rfl rfl (V_assign rfl rfl) ?_
    refine GT_nil ?_
    refine GE_seq ?_
    refine GE_seq ?_
    refine GE_slots (L' := [(6, _), (8, _)]) ⟨rfl, rfl, trivial⟩ ?_
    refine GE_plain (.st 0 (.st 1 (.st 2 (.st 3 (.st 4 (.st 5 .nil)))))) rfl ?_
    refine GT_st rfl rfl rfl rfl (V_move rfl rfl) ?_
    first | refine GT_st rfl rfl rfl rfl (V_nilCheck rfl rfl) ?_ | refine GT_st rfl rfl rfl rfl (V_nilCheck_func rfl rfl) ?_ | refine GT_st rfl rfl rfl rfl (V_nilCheck_yield rfl rfl) ?_
    first | refine GT_st rfl rfl rfl rfl (V_field rfl rfl fo_101_1) ?_ | refine GT_st rfl rfl rfl rfl (V_fieldA rfl rfl fo_101_1) ?_
    refine GT_st rfl rfl rfl rfl (V_load rfl rfl ag_99 (CellAt.item rfl)) ?_
    refine GT_st rfl rfl rfl rfl (V_len rfl Tryz.underlying99 rfl) ?_
    refine GT_st rfl rfl rfl rfl (V_move rfl rfl) ?_
    refine GT_nil ?_
    refine GE_block ?_
    refine GE_to (GE_loop (ι := Nat × Items) (fun x => p.length - x.1) (fun x => [(6, ptr y.1 0), (8, .slice (some ⟨b25, 0, none⟩) (fin p).toNat (fin p).toNat), (29, .slice y.2.1 p.length y.2.2.1), (30, I p.length), (31, I x.1)]) (fun x => (y.1, blk [.slice A l.length c, .slice y.2.1 p.length y.2.2.1, I (fin p)] 101) :: (y.2.2.2 ++ x.2)) (fun x => x.1 ≤ p.length ∧ Own 2 52 eSam (mixP p (vR l p) x.1) (.slice (some ⟨b25, 0, none⟩) (fin p).toNat (fin p).toNat) x.2) ?_ (0, [(b25, blk ((List.replicate (fin p).toNat [I 0, I 0]).flatten) 52)]) ?_) ⟨rfl, rfl, rfl, rfl, rfl, trivial⟩ (HS.cons rfl (HS.chunk HS.last))
    · rintro ⟨i, I1⟩ ⟨hi, hO⟩ ih; dsimp only at hi hO ih ⊢
      refine GE_seq ?_
      refine GE_plain (.st 0 .nil) rfl ?_
      refine GT_st rfl rfl rfl rfl (V_lss rfl rfl rfl) ?_
      refine GT_nil ?_
      refine GE_seq ?_
      first | refine GE_condNot rfl (fun h1 => ?_) (fun h1 => ?_) | refine GE_cond rfl (fun h1 => ?_) (fun h1 => ?_) | refine GE_condNotB rfl (fun h1 => ?_) (fun h1 => ?_) | refine GE_condB rfl (fun h1 => ?_) (fun h1 => ?_)
      · have hil : i < p.length := (by omega); have hbi := bgn_mono hP i hil; have hei := en_fin hP hil; have hlp := lng_pos (hP.each i hil); have hen : en p i = bgn p i + lng (pt p i) := rfl; obtain ⟨bn, hbn⟩ : ∃ bn : Nat, bgn p i = bn := ⟨(bgn p i).toNat, by omega⟩
        refine GE_skip ?_
        refine GE_seq ?_
        refine GE_block ?_
        refine GE_seq ?_
        refine GE_plain (.st 0 (.st 1 (.ld 2 [] (.ld 3 [] .nil)))) rfl ?_
        refine GT_st rfl rfl rfl rfl (V_index rfl rfl rfl Tryz.underlying99 sz_103 (k := i) rfl hil (hy.isSome (k := i) (by rw [plcs_len]; exact hil))) ?_
        refine GT_st rfl rfl rfl rfl (V_loadN (vs := [_, _, _, _, _, _, _, _, _, _]) rfl rfl ag_103 sz_103 rfl (CellsAt.ownE hy ePlc_len (by rw [plcs_len]; exact hil) (by rw [plcs_get hil, ePlc_plc]))) ?_
        refine GT_alloc rfl rfl rfl rfl rfl zc_103 (fun _ => GR_nil) (fun b10 => ?_)
        refine GT_store (vs := [_, _, _, _, _, _, _, _, _, _]) (l' := [_, _, _, _, _, _, _, _, _, _]) rfl rfl rfl rfl rfl rfl rfl sz_103 rfl rfl (Nat.le_of_ble_eq_true rfl) rfl (GR_nil) ?_
        refine GT_nil ?_
        refine GE_seq ?_
        refine GE_plain (.st 0 (.st 1 (.st 2 .nil))) rfl ?_
        first | refine GT_st rfl rfl rfl rfl (V_field rfl rfl fo_103_2) ?_ | refine GT_st rfl rfl rfl rfl (V_fieldA rfl rfl fo_103_2) ?_
        refine GT_st rfl rfl rfl rfl (V_load rfl rfl ag_3 (CellAt.item rfl)) ?_
        refine GT_st rfl rfl rfl rfl (V_assign rfl rfl) ?_
        refine GT_nil ?_
        refine GE_block ?_
        refine GE_to (GE_loop (ι := Nat × Items) (fun x => (fin p).toNat - x.1) (fun x => [(6, ptr y.1 0), (8, .slice (some ⟨b25, 0, none⟩) (fin p).toNat (fin p).toNat), (10, ptr b10 0), (11, I x.1), (29, .slice y.2.1 p.length y.2.2.1), (30, I p.length), (31, I i)]) (fun x => (b10, blk [I (pt p i).tk, I (pt p i).fr, I (pt p i).to, I (pt p i).gap, I (pt p i).inn, I (pt p i).out, I (pt p i).lev, I i, I (bgn p i), I (en p i)] 103) :: (y.1, blk [.slice A l.length c, .slice y.2.1 p.length y.2.2.1, I (fin p)] 101) :: (y.2.2.2 ++ x.2)) (fun x => bgn p i ≤ x.1 ∧ (x.1 : Int) ≤ en p i ∧ Own 2 52 eSam (mixS p (vR l p) i x.1) (.slice (some ⟨b25, 0, none⟩) (fin p).toNat (fin p).toNat) x.2) ?_ (bn, I1) ?_) ⟨rfl, rfl, rfl, lookI rfl hbn, rfl, rfl, rfl, trivial⟩ (HS.cons rfl (HS.cons rfl (HS.chunk HS.last)))
        · rintro ⟨t, I2⟩ ⟨ht1, ht2, hO2⟩ ih2; dsimp only at ht1 ht2 hO2 ih2 ⊢
          refine GE_seq ?_
          refine GE_seq ?_
          refine GE_plain (.st 0 (.st 1 (.st 2 (.st 3 .nil)))) rfl ?_
          refine GT_st rfl rfl rfl rfl (V_move rfl rfl) ?_
          first | refine GT_st rfl rfl rfl rfl (V_field rfl rfl fo_103_3) ?_ | refine GT_st rfl rfl rfl rfl (V_fieldA rfl rfl fo_103_3) ?_
          refine GT_st rfl rfl rfl rfl (V_load rfl rfl ag_3 (CellAt.item rfl)) ?_
          refine GT_st rfl rfl rfl rfl (V_lss rfl rfl rfl) ?_
          refine GT_nil ?_
          first | refine GE_condNot rfl (fun h2 => ?_) (fun h2 => ?_) | refine GE_cond rfl (fun h2 => ?_) (fun h2 => ?_) | refine GE_condNotB rfl (fun h2 => ?_) (fun h2 => ?_) | refine GE_condB rfl (fun h2 => ?_) (fun h2 => ?_)
          · have htl : t < (fin p).toNat := (by omega); have hml2 := mixS_len p (vR l p) i t; have hlv := (hP.each i hil).lev; have hnb := mixN_bd8 hP (vR_bd hP) (Nat.le_of_lt hil) (t : Int); have hvb := vR_bd hP i ((t : Int) - bgn p i) hil (by omega) (by omega)
            refine GE_skip ?_
            refine GE_seq ?_
            refine GE_block ?_
            refine GE_slots (L' := [(6, _), (8, _), (10, _), (11, _), (29, _), (30, _), (31, _)]) ⟨rfl, rfl, rfl, rfl, rfl, rfl, rfl, trivial⟩ ?_
            refine GE_drawn (.st 0 (.st 1 (.st 2 (.st 3 (.st 4 (.st 5 (.st 6 (.st 7 (.st 8 (.st 9 (.st 10 (.st 11 (.st 12 (.st 13 (.st 14 (.ld 15 [0, 1, 2, 3, 4, 5] (.ld 16 [0, 1] (.st 17 (.ld 18 [] .nil))))))))))))))))))) [15, 16, 18] (by decide +kernel) ?_
            refine GT_st rfl rfl rfl rfl (V_move rfl rfl) ?_
            refine GT_st rfl rfl rfl rfl (V_move rfl rfl) ?_
            refine GT_st rfl rfl rfl rfl (V_move rfl rfl) ?_
            refine GT_st rfl rfl rfl rfl (V_move rfl rfl) ?_
            refine GT_st rfl rfl rfl rfl (V_index rfl rfl rfl Tryz.underlying37 sz_52 (k := t) rfl htl rfl) ?_
            refine GT_st rfl rfl rfl rfl (V_loadN (vs := [_, _]) rfl rfl ag_52 sz_52 rfl (CellsAt.ownE hO2 eSam_len (by omega) (by rw [mixS_at htl]; rfl))) ?_
            refine GT_st rfl rfl rfl rfl (V_move rfl rfl) ?_
            refine GT_st rfl rfl rfl rfl (V_loadN (vs := [_, _, _, _, _, _, _, _, _, _]) rfl rfl ag_103 sz_103 rfl (CellsAt.item rfl)) ?_
            refine GT_st rfl rfl rfl rfl (V_move rfl rfl) ?_
            first | refine GT_st rfl rfl rfl rfl (V_field rfl rfl fo_103_2) ?_ | refine GT_st rfl rfl rfl rfl (V_fieldA rfl rfl fo_103_2) ?_
            refine GT_st rfl rfl rfl rfl (V_load rfl rfl ag_3 (CellAt.item rfl)) ?_
            refine GT_st rfl rfl rfl rfl (V_sub rfl rfl rfl (wrap_i64 (by omega))) ?_
            first | refine GT_st rfl rfl rfl rfl (V_field rfl rfl fo_103_0) ?_ | refine GT_st rfl rfl rfl rfl (V_fieldA rfl rfl fo_103_0) ?_
            first | refine GT_st rfl rfl rfl rfl (V_field rfl rfl fo_59_6) ?_ | refine GT_st rfl rfl rfl rfl (V_fieldA rfl rfl fo_59_6) ?_
            refine GT_st rfl rfl rfl rfl (V_load rfl rfl ag_2 (CellAt.item rfl)) ?_
            refine GT_call0 rfl rfl rfl rfl rfl rfl rfl rfl rn_41 (fun w hw => C_sound (i := i) (k := (t : Int) - bgn p i) (lev := (pt p i).lev) hil hP (by omega) (by omega) hlv.1 (by omega) (h.sh hw) (BlkAt.of hw)) (GR_cons rfl rfl rfl rfl (V_move rfl rfl) (GR_cons rfl rfl rfl rfl (V_move rfl rfl) (GR_cons rfl rfl rfl rfl (V_move rfl rfl) (GR_cons rfl rfl rfl rfl (V_move rfl rfl) (GR_cons rfl rfl rfl rfl (V_index rfl rfl rfl Tryz.underlying37 sz_52 (k := t) rfl htl rfl) (GR_cons rfl rfl rfl rfl (V_loadN (vs := [_, _]) rfl rfl ag_52 sz_52 rfl (CellsAt.ownE hO2 eSam_len (by omega) (by rw [mixS_at htl]; rfl))) (GR_nil))))))) ?_
            refine GT_call0 rfl rfl rfl rfl rfl rfl rfl rfl rn_40 (fun w hw => C_sum (a := mixN p (vR l p) i t) (b := snd l (pt p i) ((t : Int) - bgn p i) (pt p i).lev) hnb (Sam.bd.mono hvb (by decide))) (GR_cons rfl rfl rfl rfl (V_move rfl rfl) (GR_cons rfl rfl rfl rfl (V_move rfl rfl) (GR_nil))) ?_
            refine GT_st rfl rfl rfl rfl (V_index rfl rfl rfl Tryz.underlying37 sz_52 (k := t) rfl htl rfl) ?_
            refine GT_storeOwn (enc := eSam) (q := t) (xx := sad (mixN p (vR l p) i t) (vR l p i ((t : Int) - bgn p i))) rfl rfl rfl rfl rfl rfl rfl sz_52 hO2 eSam_len eSam_one (by omega) (by decide) (fun _ _ => GR_nil) (fun I3 hO3 => ?_)
            refine GT_nil ?_
            refine GE_inBlock ?_
            refine GE_slots (L' := [(6, _), (8, _), (10, _), (11, _), (29, _), (30, _), (31, _)]) ⟨rfl, rfl, rfl, rfl, rfl, rfl, rfl, trivial⟩ ?_
            rw [mixS_set htl ht1 h2] at hO3
            refine GE_plain (.st 0 (.st 1 (.ld 2 [] .nil))) rfl ?_
            refine GT_st rfl rfl rfl rfl (V_move rfl rfl) ?_
            refine GT_st rfl rfl rfl rfl (V_add rfl rfl rfl (wrap_i64 (by omega))) ?_
            refine GT_ldv rfl rfl rfl rfl rfl (V_assign rfl rfl) (GR_nil) ?_
            refine GT_nil ?_
            exact GE_to (ih2 (t + 1, I3) ⟨by dsimp only; omega, by dsimp only; omega, hO3⟩ (by dsimp only; omega)) ⟨rfl, rfl, rfl, rfl, rfl, rfl, rfl, trivial⟩ (HS.cons rfl (HS.cons rfl (HS.chunk HS.last)))
          · have het : (t : Int) = en p i := (by omega)
            refine GE_exit rfl ?_
            refine GE_inBlock ?_
            refine GE_slots (L' := [(6, _), (8, _), (29, _), (30, _), (31, _)]) ⟨rfl, rfl, rfl, rfl, rfl, trivial⟩ ?_
            refine GE_plain (.st 0 (.ld 1 [] .nil)) rfl ?_
            refine GT_st rfl rfl rfl rfl (V_add rfl rfl rfl (wrap_i64 (by omega))) ?_
            refine GT_ldv rfl rfl rfl rfl rfl (V_move rfl rfl) (GR_nil) ?_
            refine GT_nil ?_
            exact GE_to (ih (i + 1, I2) ⟨by dsimp only; omega, by rw [← mixS_end, ← het]; exact hO2⟩ (by dsimp only; omega)) ⟨rfl, rfl, rfl, rfl, rfl, trivial⟩ (HS.cons rfl (HS.chunk HS.last))
        · exact ⟨by dsimp only; omega, by dsimp only; omega, by dsimp only; rw [← hbn, mixS_begin]; exact hO⟩
      · obtain rfl : i = p.length := (by omega); rw [mixP_all] at hO
        refine GE_exit rfl ?_
        refine GE_seq ?_
        refine GE_seq ?_
        refine GE_slots (L' := [(8, _)]) ⟨rfl, trivial⟩ ?_
        refine GE_plain (.st 0 (.ld 1 [] (.st 2 .nil))) rfl ?_
        refine GT_st rfl rfl rfl rfl (V_move rfl rfl) ?_
        refine GT_call0 rfl rfl rfl rfl rfl rfl rfl rfl rn_42 (fun w hw => C_CheckSamplesN (s := rend l p) (mix_len p (vR l p)) (hO.rdH eSam_len hw)) (GR_nil) ?_
        refine GT_st rfl rfl rfl rfl (V_neq rfl rfl rfl) ?_
        refine GT_nil ?_
        first | refine GE_condNot rfl (fun h3 => ?_) (fun h3 => ?_) | refine GE_cond rfl (fun h3 => ?_) (fun h3 => ?_) | refine GE_condNotB rfl (fun h3 => ?_) (fun h3 => ?_) | refine GE_condB rfl (fun h3 => ?_) (fun h3 => ?_)
        · skip
          refine GE_seq ?_
          refine GE_slots (L' := []) trivial ?_
          refine GE_plain (.st 0 (.st 1 .nil)) rfl ?_
          refine GT_st rfl rfl rfl rfl (V_assign rfl rfl) ?_
          refine GT_st rfl rfl rfl rfl (V_assign rfl rfl) ?_
          refine GT_nil ?_
          refine GE_ret Tryz.func16 ⟨_, _, rfl, rfl, rfl⟩ (fun w hw => ?_)
          have e : rErr l p = 4 := (by rw [rErr, if_pos hg, if_neg h3]); have e2 : rendL l p = [] := if_neg (by omega); exact ⟨(none, 0, []), by dsimp only; rw [e2]; exact Own.nil, by dsimp only; rw [e, e2]; rfl, hw.nil⟩
        · skip
          refine GE_skip ?_
          refine GE_seq ?_
          refine GE_plain (.st 0 (.st 1 (.st 2 .nil))) rfl ?_
          refine GT_st rfl rfl rfl rfl (V_move rfl rfl) ?_
          refine GT_st rfl rfl rfl rfl (V_assign rfl rfl) ?_
          refine GT_st rfl rfl rfl rfl (V_assign rfl rfl) ?_
          refine GT_nil ?_
          refine GE_ret Tryz.func16 ⟨_, _, rfl, rfl, rfl⟩ (fun w hw => ?_)
          have e : rErr l p = 0 := (by rw [rErr, if_pos hg, if_pos h3]); have e2 : rendL l p = rend l p := if_pos e; exact ⟨(some ⟨b25, 0, none⟩, (fin p).toNat, I1), by dsimp only; rw [e2, hml]; exact hO, by dsimp only; rw [e, e2, hml], hw.chunk⟩
    · exact ⟨Nat.zero_le _, by rw [mixP_zero]; exact Own.made (x := (⟨0, 0⟩ : Sam)) rfl (by unfold maxLen; omega)⟩
  · have e : rErr l p = gErr l p := if_neg hg
    have e2 : rendL l p = [] := if_neg (by omega)
    refine Ret_of (vs := [_, _]) hm none' Tryz.func16 rfl Tryz.ntmps16 rfl ?_
    dsimp only [slotsOf]
    refine GE_seq ?_
    refine GE_plain (.st 0 (.st 1 .nil)) rfl ?_
    refine GT_st rfl rfl rfl rfl (V_assign rfl rfl) ?_
    refine GT_st rfl rfl rfl rfl (V_assign rfl rfl) ?_
    refine GT_nil ?_
    refine GE_seq ?_
    refine GE_plain (.st 0 (.st 1 (.ld 2 [] (.st 3 (.st 4 (.st 5 (.st 6 (.st 7 .nil)))))))) rfl ?_
    refine GT_st rfl rfl rfl rfl (V_move rfl rfl) ?_
    refine GT_st rfl rfl rfl rfl (V_move rfl rfl) ?_
    refine GT_call0 rfl rfl rfl rfl rfl rfl rfl rfl rn_39 (fun w hw => C_new_bad (h.sh hw) (hp.sh hw) hg) (GR_nil) ?_
    refine GT_st rfl rfl rfl rfl (V_move rfl rfl) ?_
    refine GT_st rfl rfl rfl rfl (V_extract rfl rfl rfl) ?_
    refine GT_st rfl rfl rfl rfl (V_extract rfl rfl rfl) ?_
    refine GT_st rfl rfl rfl rfl (V_assign rfl rfl) ?_
    refine GT_st rfl rfl rfl rfl (V_assign rfl rfl) ?_
    refine GT_nil ?_
    refine GE_seq ?_
    refine GE_seq ?_
    refine GE_slots (L' := [(6, _), (7, _)]) ⟨rfl, rfl, trivial⟩ ?_
    refine GE_plain (.st 0 (.st 1 .nil)) rfl ?_
    refine GT_st rfl rfl rfl rfl (V_move rfl rfl) ?_
    refine GT_st rfl rfl rfl rfl (V_isT (V_neq rfl rfl rfl) hg) ?_
    refine GT_nil ?_
    refine GE_cond_t rfl ?_
    refine GE_seq ?_
    refine GE_plain (.st 0 (.st 1 (.st 2 .nil))) rfl ?_
    refine GT_st rfl rfl rfl rfl (V_move rfl rfl) ?_
    refine GT_st rfl rfl rfl rfl (V_assign rfl rfl) ?_
    refine GT_st rfl rfl rfl rfl (V_assign rfl rfl) ?_
    refine GT_nil ?_
    refine GE_ret Tryz.func16 ⟨_, _, rfl, rfl, rfl⟩ (fun w hw => ?_)
    exact ⟨(none, 0, []), by dsimp only; rw [e2]; exact Own.nil, by dsimp only; rw [e, e2]; rfl, hw.nil⟩
end
end Go.Proofs.YtdcjgjopmicidaaGreatDoor
/- Silences, peaks and energies; and the document's; walked. -/
namespace Go.Proofs.YtdcjgjopmicidaaGreatDoor
open Go.Sx Go.Proofs Go.RowKit

section
variable {w : World} {A : Option Addr} {c : Nat} {s : List Sam}
theorem C_end {b10 b5 b9 c' : Nat} {A' : Option Addr} {I' H1 : Items} {out : List Iv} {fr least to : Int} {w0 : World} (m : SH w0 none' ((b10, blk [I fr] 3) :: (b5, blk [I least] 3) :: (b9, blk [.slice A' out.length c'] 48) :: (I' ++ H1)) w) (hO : Own 2 53 eIv out (.slice A' out.length c') I') (hf : 0 ≤ fr ∧ fr ≤ 5000) (ht : 0 ≤ to ∧ to ≤ 5000) (hl : out.length ≤ 5000) :
    Ret Tryz.prog 44 [I to, ptr b10 0, ptr b5 0, ptr b9 0].toArray w fun v w' => ∃ y : Option Addr × Nat × Items, Own 2 53 eIv (addIv least out fr to) (.slice y.1 (addIv least out fr to).length y.2.1) y.2.2 ∧ v = .tuple #[] ∧ SH w0 none' ((b10, blk [I (to + 1)] 3) :: (b5, blk [I least] 3) :: (b9, blk [.slice y.1 (addIv least out fr to).length y.2.1] 48) :: (y.2.2 ++ H1)) w' := by
  refine Ret_ofH (vs := [_, _, _, _]) hm none' Tryz.func44 rfl Tryz.ntmps44 rfl m ?_
  dsimp only [slotsOf]
  refine GE_seq ?_
  refine GE_seq ?_
  refine GE_plain (.st 0 (.st 1 (.st 2 (.st 3 (.st 4 .nil))))) rfl ?_
  refine GT_st rfl rfl rfl rfl (V_move rfl rfl) ?_
  refine GT_st rfl rfl rfl rfl (V_load rfl rfl ag_3 (CellAt.item rfl)) ?_
  refine GT_st rfl rfl rfl rfl (V_sub rfl rfl rfl (wrap_i64 (by omega))) ?_
  refine GT_st rfl rfl rfl rfl (V_load rfl rfl ag_3 (CellAt.item rfl)) ?_
  refine GT_st rfl rfl rfl rfl (V_geq rfl rfl rfl) ?_
  refine GT_nil ?_
  first | refine GE_condNot rfl (fun h1 => ?_) (fun h1 => ?_) | refine GE_cond rfl (fun h1 => ?_) (fun h1 => ?_) | refine GE_condNotB rfl (fun h1 => ?_) (fun h1 => ?_) | refine GE_condB rfl (fun h1 => ?_) (fun h1 => ?_)
  · skip
    refine GE_slots (L' := [(0, _), (1, _), (3, _)]) ⟨rfl, rfl, rfl, trivial⟩ ?_
    refine GE_plain (.st 0 (.st 1 (.st 2 (.st 3 (.ld 4 [] (.ld 5 [] (.ld 6 [] .nil))))))) rfl ?_
    refine GT_st rfl rfl rfl rfl (V_load rfl rfl ag_48 (CellAt.item rfl)) ?_
    refine GT_st rfl rfl rfl rfl (V_load rfl rfl ag_3 (CellAt.item rfl)) ?_
    refine GT_st rfl rfl rfl rfl (V_move rfl rfl) ?_
    refine GT_st rfl rfl rfl rfl (V_build (vs := [_, _]) rfl rfl zc_53 pl_53 sa_53 rfl) ?_
    refine GT_buildSlice (z := [_, _]) rfl rfl rfl rfl rfl Tryz.underlying48 zc_53 sz_53 (by decide) rfl rfl (fun _ => GR_nil) (fun b14 => ?_)
    refine GT_append (enc := eIv) (m := [(fr, to)]) rfl rfl rfl rfl rfl rfl rfl hO (fun w m => RdL.own' m eIv_len) Tryz.underlying48 zc_53 sz_53 ⟨rfl, by decide⟩ by_53 ⟨by simp only [List.length_singleton]; omega, by simp only [List.length_singleton]; omega⟩ eIv_len eIv_one (fun _ _ _ _ => GR_nil) (fun A2' c2' I2' hO2 => ?_)
    refine GT_store (vs := [_]) (l' := [_]) rfl rfl rfl rfl rfl rfl rfl sz_48 rfl rfl (Nat.le_of_ble_eq_true rfl) rfl (GR_nil) ?_
    refine GT_nil ?_
    refine GE_slots (L' := [(0, _), (1, _)]) ⟨rfl, rfl, trivial⟩ ?_
    refine GE_plain (.st 0 (.st 1 (.ld 2 [] .nil))) rfl ?_
    refine GT_st rfl rfl rfl rfl (V_move rfl rfl) ?_
    refine GT_st rfl rfl rfl rfl (V_add rfl rfl rfl (wrap_i64 (by omega))) ?_
    refine GT_store (vs := [_]) (l' := [_]) rfl rfl rfl rfl rfl rfl rfl sz_3 rfl rfl (Nat.le_of_ble_eq_true rfl) rfl (GR_nil) ?_
    refine GT_nil ?_
    refine GE_end Tryz.func44 rfl (fun w hw => ?_)
    first | (have e : addIv least out fr to = out ++ [(fr, to)] := if_pos (by omega); exact ⟨(A2', c2', I2'), by dsimp only; rw [e]; exact hO2, rfl, by rw [e]; exact hw.hs (C := cx Tryz.prog hm 0 0 w0 none' fun _ _ => True) (HS.cons rfl (HS.cons rfl (HS.cons rfl (HS.chunk HS.last))))⟩) | (have e : addIv least out fr to = out := if_neg (by omega); exact ⟨(A', c', I'), by dsimp only; rw [e]; exact hO, rfl, by rw [e]; exact hw⟩)
  · skip
    refine GE_skip ?_
    refine GE_slots (L' := [(0, _), (1, _)]) ⟨rfl, rfl, trivial⟩ ?_
    refine GE_plain (.st 0 (.st 1 (.ld 2 [] .nil))) rfl ?_
    refine GT_st rfl rfl rfl rfl (V_move rfl rfl) ?_
    refine GT_st rfl rfl rfl rfl (V_add rfl rfl rfl (wrap_i64 (by omega))) ?_
    refine GT_store (vs := [_]) (l' := [_]) rfl rfl rfl rfl rfl rfl rfl sz_3 rfl rfl (Nat.le_of_ble_eq_true rfl) rfl (GR_nil) ?_
    refine GT_nil ?_
    refine GE_end Tryz.func44 rfl (fun w hw => ?_)
    first | (have e : addIv least out fr to = out ++ [(fr, to)] := if_pos (by omega); exact ⟨(A2', c2', I2'), by dsimp only; rw [e]; exact hO2, rfl, by rw [e]; exact hw.hs (C := cx Tryz.prog hm 0 0 w0 none' fun _ _ => True) (HS.cons rfl (HS.cons rfl (HS.cons rfl (HS.chunk HS.last))))⟩) | (have e : addIv least out fr to = out := if_neg (by omega); exact ⟨(A', c', I'), by dsimp only; rw [e]; exact hO, rfl, by rw [e]; exact hw⟩)
theorem loud_iff {a : Int} {x : Sam} : a < max x.amts.l x.amts.r ↔ quiet a x = false := by
  rw [Bool.eq_false_iff, Ne, quiet_iff]
  unfold Sam.amts
  dsimp only
  omega
theorem bd_of {s : List Sam} (h : s.all Sam.ok = true) {k : Nat} (hk : k < s.length) : (s.getD k default).bd 32767 := by
  have := Sam.ok_iff.1 (all_getD.1 h k hk)
  unfold Sam.bd; omega
set_option maxRecDepth 10000 in
theorem C_Silences {a least : Int} (h : RdL w 2 eSam A s) : Con Tryz.prog 17 [.slice A s.length c, I a, I least] w (fun y : Option Addr × Nat × Items => Own 2 53 eIv (silL s a least) (.slice y.1 (silL s a least).length y.2.1) y.2.2)
    (fun y => .tuple #[.slice y.1 (silL s a least).length y.2.1, I (iErr s a least)]) (fun y => y.2.2) := by
  refine Ret_of (vs := [_, _, _]) hm none' Tryz.func17 rfl Tryz.ntmps17 rfl ?_
  dsimp only [slotsOf]
  refine GE_seq ?_
  refine GE_plain (.ld 0 [] (.st 1 (.st 2 .nil))) rfl ?_
  refine GT_box (z := [_]) rfl rfl rfl rfl rfl rfl rfl (fun _ => GR_nil) (fun b5 => ?_)
  refine GT_st rfl rfl rfl rfl (V_assign rfl rfl) ?_
  refine GT_st rfl rfl rfl rfl (V_assign rfl rfl) ?_
  refine GT_nil ?_
  refine GE_seq ?_
  refine GE_seq ?_
  refine GE_plain (.st 0 (.ld 1 [] (.st 2 .nil))) rfl ?_
  refine GT_st rfl rfl rfl rfl (V_move rfl rfl) ?_
  refine GT_call0 rfl rfl rfl rfl rfl rfl rfl rfl rn_42 (fun w hw => C_CheckSamples (h.sh hw)) (GR_nil) ?_
  refine GT_st rfl rfl rfl rfl (V_assign rfl rfl) ?_
  refine GT_nil ?_
  refine GE_seq ?_
  refine GE_slots (L' := [(0, _), (1, _), (5, _), (8, _)]) ⟨rfl, rfl, rfl, rfl, trivial⟩ ?_
  refine GE_plain (.st 0 (.st 1 .nil)) rfl ?_
  refine GT_st rfl rfl rfl rfl (V_move rfl rfl) ?_
  refine GT_st rfl rfl rfl rfl (V_neq rfl rfl rfl) ?_
  refine GT_nil ?_
  first | refine GE_condNot rfl (fun h1 => ?_) (fun h1 => ?_) | refine GE_cond rfl (fun h1 => ?_) (fun h1 => ?_) | refine GE_condNotB rfl (fun h1 => ?_) (fun h1 => ?_) | refine GE_condB rfl (fun h1 => ?_) (fun h1 => ?_)
  · skip
    refine GE_seq ?_
    refine GE_slots (L' := [(8, _)]) ⟨rfl, trivial⟩ ?_
    refine GE_plain (.st 0 (.st 1 (.st 2 .nil))) rfl ?_
    refine GT_st rfl rfl rfl rfl (V_move rfl rfl) ?_
    refine GT_st rfl rfl rfl rfl (V_assign rfl rfl) ?_
    refine GT_st rfl rfl rfl rfl (V_assign rfl rfl) ?_
    refine GT_nil ?_
    refine GE_ret Tryz.func17 ⟨_, _, rfl, rfl, rfl⟩ (fun w hw => ?_)
    have e : iErr s a least = sErr s := if_neg h1; have e2 : silL s a least = [] := if_neg (by rw [e]; exact h1); exact ⟨(none, 0, []), by dsimp only; rw [e2]; exact Own.nil, by dsimp only; rw [e, e2]; rfl, hw.nil⟩
  · obtain ⟨hl, hall⟩ := sErr_zero.1 h1
    refine GE_skip ?_
    refine GE_seq ?_
    refine GE_seq ?_
    refine GE_plain (.st 0 (.ld 1 [] (.st 2 (.st 3 (.st 4 (.st 5 (.st 6 (.st 7 (.st 8 (.st 9 (.st 10 .nil))))))))))) rfl ?_
    refine GT_st rfl rfl rfl rfl (V_move rfl rfl) ?_
    refine GT_call0 rfl rfl rfl rfl rfl rfl rfl rfl rn_43 (fun w hw => C_between) (GR_nil) ?_
    first | refine GT_st rfl rfl rfl rfl (V_not rfl rfl) ?_ | refine GT_st rfl rfl rfl rfl (V_notB rfl rfl) ?_
    refine GT_st rfl rfl rfl rfl (V_move rfl rfl) ?_
    first | refine GT_splitNot (d := 23) rfl (fun h2 => ?_) (fun h2 => ?_) | refine GT_split (d := 23) rfl (fun h2 => ?_) (fun h2 => ?_) | refine GT_splitNotB (d := 23) rfl (fun h2 => ?_) (fun h2 => ?_) | refine GT_splitB (d := 23) rfl (fun h2 => ?_) (fun h2 => ?_)
    · skip
      refine GT_skip rfl rfl rfl rfl rfl (by decide) rfl rfl ?_
      refine GT_skip rfl rfl rfl rfl rfl (by decide) rfl rfl ?_
      refine GT_st rfl rfl rfl rfl (V_pick_t rfl rfl rfl) ?_
      refine GT_st rfl rfl rfl rfl (V_move rfl rfl) ?_
      refine GT_skip rfl rfl rfl rfl rfl (by decide) rfl rfl ?_
      refine GT_skip rfl rfl rfl rfl rfl (by decide) rfl rfl ?_
      refine GT_st rfl rfl rfl rfl (V_pick_t rfl rfl rfl) ?_
      refine GT_nil ?_
      refine GE_cond_t rfl ?_
      refine GE_seq ?_
      refine GE_slots (L' := []) trivial ?_
      refine GE_plain (.st 0 (.st 1 .nil)) rfl ?_
      refine GT_st rfl rfl rfl rfl (V_assign rfl rfl) ?_
      refine GT_st rfl rfl rfl rfl (V_assign rfl rfl) ?_
      refine GT_nil ?_
      refine GE_ret Tryz.func17 ⟨_, _, rfl, rfl, rfl⟩ (fun w hw => ?_)
      first | exact ⟨(y.1, y.2.1, y.2.2), by dsimp only; rw [e2]; exact hy, by dsimp only; rw [e, e2]; rfl, hw.hs (C := cx Tryz.prog hm 0 0 _ none' fun _ _ => True) HS.last⟩ | (have e : iErr s a least = 3 := (by rw [iErr, if_pos h1, if_neg]; intro q; rw [Bool.and_eq_true] at q; have q2 := betw_iff.1 q.2; first | omega | (rw [q.1] at h2; exact absurd h2 (by decide))); have e2 : silL s a least = [] := if_neg (by omega); exact ⟨(none, 0, []), by dsimp only; rw [e2]; exact Own.nil, by dsimp only; rw [e, e2]; rfl, hw.nil⟩)
    · skip
      refine GT_st_g rfl rfl rfl rfl rfl rfl rfl (V_load rfl rfl ag_3 (CellAt.item rfl)) ?_
      refine GT_st_g rfl rfl rfl rfl rfl rfl rfl (V_lss rfl rfl rfl) ?_
      refine GT_st rfl rfl rfl rfl (V_pick_f rfl rfl rfl) ?_
      refine GT_st rfl rfl rfl rfl (V_move rfl rfl) ?_
      first | refine GT_splitNot (d := 27) rfl (fun h3 => ?_) (fun h3 => ?_) | refine GT_split (d := 27) rfl (fun h3 => ?_) (fun h3 => ?_) | refine GT_splitNotB (d := 27) rfl (fun h3 => ?_) (fun h3 => ?_) | refine GT_splitB (d := 27) rfl (fun h3 => ?_) (fun h3 => ?_)
      · skip
        refine GT_skip rfl rfl rfl rfl rfl (by decide) rfl rfl ?_
        refine GT_skip rfl rfl rfl rfl rfl (by decide) rfl rfl ?_
        refine GT_st rfl rfl rfl rfl (V_pick_t rfl rfl rfl) ?_
        refine GT_nil ?_
        refine GE_cond_t rfl ?_
        refine GE_seq ?_
        refine GE_slots (L' := []) trivial ?_
        refine GE_plain (.st 0 (.st 1 .nil)) rfl ?_
        refine GT_st rfl rfl rfl rfl (V_assign rfl rfl) ?_
        refine GT_st rfl rfl rfl rfl (V_assign rfl rfl) ?_
        refine GT_nil ?_
        refine GE_ret Tryz.func17 ⟨_, _, rfl, rfl, rfl⟩ (fun w hw => ?_)
        first | exact ⟨(y.1, y.2.1, y.2.2), by dsimp only; rw [e2]; exact hy, by dsimp only; rw [e, e2]; rfl, hw.hs (C := cx Tryz.prog hm 0 0 _ none' fun _ _ => True) HS.last⟩ | (have e : iErr s a least = 3 := (by rw [iErr, if_pos h1, if_neg]; intro q; rw [Bool.and_eq_true] at q; have q2 := betw_iff.1 q.2; first | omega | (rw [q.1] at h2; exact absurd h2 (by decide))); have e2 : silL s a least = [] := if_neg (by omega); exact ⟨(none, 0, []), by dsimp only; rw [e2]; exact Own.nil, by dsimp only; rw [e, e2]; rfl, hw.nil⟩)
      · skip
        refine GT_st_g rfl rfl rfl rfl rfl rfl rfl (V_load rfl rfl ag_3 (CellAt.item rfl)) ?_
        refine GT_st_g rfl rfl rfl rfl rfl rfl rfl (V_gtr rfl rfl rfl) ?_
        refine GT_st rfl rfl rfl rfl (V_pick_f rfl rfl rfl) ?_
        refine GT_nil ?_
        first | refine GE_condNot rfl (fun h4 => ?_) (fun h4 => ?_) | refine GE_cond rfl (fun h4 => ?_) (fun h4 => ?_) | refine GE_condNotB rfl (fun h4 => ?_) (fun h4 => ?_) | refine GE_condB rfl (fun h4 => ?_) (fun h4 => ?_)
        · skip
          refine GE_seq ?_
          refine GE_slots (L' := []) trivial ?_
          refine GE_plain (.st 0 (.st 1 .nil)) rfl ?_
          refine GT_st rfl rfl rfl rfl (V_assign rfl rfl) ?_
          refine GT_st rfl rfl rfl rfl (V_assign rfl rfl) ?_
          refine GT_nil ?_
          refine GE_ret Tryz.func17 ⟨_, _, rfl, rfl, rfl⟩ (fun w hw => ?_)
          first | exact ⟨(y.1, y.2.1, y.2.2), by dsimp only; rw [e2]; exact hy, by dsimp only; rw [e, e2]; rfl, hw.hs (C := cx Tryz.prog hm 0 0 _ none' fun _ _ => True) HS.last⟩ | (have e : iErr s a least = 3 := (by rw [iErr, if_pos h1, if_neg]; intro q; rw [Bool.and_eq_true] at q; have q2 := betw_iff.1 q.2; first | omega | (rw [q.1] at h2; exact absurd h2 (by decide))); have e2 : silL s a least = [] := if_neg (by omega); exact ⟨(none, 0, []), by dsimp only; rw [e2]; exact Own.nil, by dsimp only; rw [e, e2]; rfl, hw.nil⟩)
        · have e : iErr s a least = 0 := (by rw [iErr, if_pos h1, if_pos]; rw [Bool.and_eq_true]; exact ⟨by simpa using h2, betw_iff.2 (by omega)⟩); have e2 : silL s a least = sil s a least := if_pos e
          refine GE_skip ?_
          refine GE_seq ?_
          refine GE_slots (L' := [(0, _), (1, _), (5, _)]) ⟨rfl, rfl, rfl, trivial⟩ ?_
          refine GE_plain (.ld 0 [] .nil) rfl ?_
          refine GT_alloc rfl rfl rfl rfl rfl zc_48 (fun _ => GR_nil) (fun b9 => ?_)
          refine GT_nil ?_
          refine GE_seq ?_
          refine GE_plain (.ld 0 [] (.ld 1 [] .nil)) rfl ?_
          refine GT_alloc rfl rfl rfl rfl rfl zc_3 (fun _ => GR_nil) (fun b10 => ?_)
          refine GT_store (vs := [_]) (l' := [_]) rfl rfl rfl rfl rfl rfl rfl sz_3 rfl rfl (Nat.le_of_ble_eq_true rfl) rfl (GR_nil) ?_
          refine GT_nil ?_
          refine GE_seq ?_
          refine GE_plain (.st 0 (.st 1 .nil)) rfl ?_
          refine GT_st rfl rfl rfl rfl (V_makeFunc rfl rfl rfl) ?_
          refine GT_st rfl rfl rfl rfl (V_assign rfl rfl) ?_
          refine GT_nil ?_
          refine GE_seq ?_
          refine GE_seq ?_
          refine GE_plain (.st 0 (.st 1 (.st 2 .nil))) rfl ?_
          refine GT_st rfl rfl rfl rfl (V_move rfl rfl) ?_
          refine GT_st rfl rfl rfl rfl (V_len rfl Tryz.underlying37 rfl) ?_
          refine GT_st rfl rfl rfl rfl (V_move rfl rfl) ?_
          refine GT_nil ?_
          refine GE_block ?_
          refine GE_to (GE_loop (ι := Nat × Option Addr × Nat × Items) (fun x => s.length - x.1) (fun x => [(0, .slice A s.length c), (1, I a), (9, ptr b9 0), (11, .func (.func 44) #[] #[ptr b10 0, ptr b5 0, ptr b9 0]), (32, .slice A s.length c), (33, I s.length), (34, I x.1)]) (fun x => (b10, blk [I (silN s a least x.1).2] 3) :: (b5, blk [I least] 3) :: (b9, blk [.slice x.2.1 (silN s a least x.1).1.length x.2.2.1] 48) :: x.2.2.2) (fun x => x.1 ≤ s.length ∧ Own 2 53 eIv (silN s a least x.1).1 (.slice x.2.1 (silN s a least x.1).1.length x.2.2.1) x.2.2.2) ?_ (0, none, 0, []) ?_) ⟨rfl, rfl, rfl, rfl, rfl, rfl, rfl, trivial⟩ (HS.cons rfl (HS.cons rfl (HS.cons rfl HS.nil)))
          · rintro ⟨k, A', c', I'⟩ ⟨hk, hO⟩ ih; dsimp only at hk hO ih ⊢; have hsl := silN_len (s := s) (a := a) (least := least) k; have hse := silN_le (s := s) (a := a) (least := least) k
            refine GE_seq ?_
            refine GE_plain (.st 0 .nil) rfl ?_
            refine GT_st rfl rfl rfl rfl (V_lss rfl rfl rfl) ?_
            refine GT_nil ?_
            refine GE_seq ?_
            first | refine GE_condNot rfl (fun h5 => ?_) (fun h5 => ?_) | refine GE_cond rfl (fun h5 => ?_) (fun h5 => ?_) | refine GE_condNotB rfl (fun h5 => ?_) (fun h5 => ?_) | refine GE_condB rfl (fun h5 => ?_) (fun h5 => ?_)
            · have hkl : k < s.length := (by omega)
              refine GE_skip ?_
              refine GE_seq ?_
              refine GE_block ?_
              refine GE_seq ?_
              refine GE_plain (.st 0 (.st 1 (.st 2 (.ld 3 [] (.st 4 (.ld 5 [] .nil)))))) rfl ?_
              refine GT_st rfl rfl rfl rfl (V_move rfl rfl) ?_
              refine GT_st rfl rfl rfl rfl (V_index rfl rfl rfl Tryz.underlying37 sz_52 (k := k) rfl hkl (h.isSome hkl)) ?_
              refine GT_st rfl rfl rfl rfl (V_loadN (vs := [_, _]) rfl rfl ag_52 sz_52 rfl (h.ats noM hkl)) ?_
              refine GT_alloc rfl rfl rfl rfl rfl zc_52 (fun _ => GR_nil) (fun b13 => ?_)
              refine GT_st rfl rfl rfl rfl (V_assign rfl rfl) ?_
              refine GT_store (vs := [_, _]) (l' := [_, _]) rfl rfl rfl rfl rfl rfl rfl sz_52 rfl rfl (Nat.le_of_ble_eq_true rfl) rfl (GR_nil) ?_
              refine GT_nil ?_
              refine GE_seq ?_
              refine GE_slots (L' := [(0, _), (1, _), (9, _), (11, _), (12, _), (13, _), (32, _), (33, _), (34, _)]) ⟨rfl, rfl, rfl, rfl, rfl, rfl, rfl, rfl, rfl, trivial⟩ ?_
              refine GE_plain (.st 0 (.ld 1 [] (.ld 2 [] (.ld 3 [] .nil)))) rfl ?_
              refine GT_st rfl rfl rfl rfl (V_loadN (vs := [_, _]) rfl rfl ag_52 sz_52 rfl (CellsAt.item rfl)) ?_
              refine GT_call0 rfl rfl rfl rfl rfl rfl rfl rfl rn_45 (fun w hw => C_amounts (a := s.getD k default) (Sam.bd.mono (bd_of hall hkl) (by decide))) (GR_nil) ?_
              refine GT_alloc rfl rfl rfl rfl rfl zc_52 (fun _ => GR_nil) (fun b14 => ?_)
              refine GT_store (vs := [_, _]) (l' := [_, _]) rfl rfl rfl rfl rfl rfl rfl sz_52 rfl rfl (Nat.le_of_ble_eq_true rfl) rfl (GR_nil) ?_
              refine GT_nil ?_
              refine GE_seq ?_
              refine GE_plain (.st 0 (.st 1 (.st 2 (.st 3 (.st 4 (.st 5 (.st 6 .nil))))))) rfl ?_
              first | refine GT_st rfl rfl rfl rfl (V_field rfl rfl fo_52_0) ?_ | refine GT_st rfl rfl rfl rfl (V_fieldA rfl rfl fo_52_0) ?_
              refine GT_st rfl rfl rfl rfl (V_load rfl rfl ag_2 (CellAt.item rfl)) ?_
              first | refine GT_st rfl rfl rfl rfl (V_field rfl rfl fo_52_1) ?_ | refine GT_st rfl rfl rfl rfl (V_fieldA rfl rfl fo_52_1) ?_
              refine GT_st rfl rfl rfl rfl (V_load rfl rfl ag_2 (CellAt.item rfl)) ?_
              refine GT_st rfl rfl rfl rfl (V_max rfl rfl rfl) ?_
              refine GT_st rfl rfl rfl rfl (V_move rfl rfl) ?_
              refine GT_st rfl rfl rfl rfl (V_gtr rfl rfl rfl) ?_
              refine GT_nil ?_
              first | refine GE_condNot rfl (fun h6 => ?_) (fun h6 => ?_) | refine GE_cond rfl (fun h6 => ?_) (fun h6 => ?_) | refine GE_condNotB rfl (fun h6 => ?_) (fun h6 => ?_) | refine GE_condB rfl (fun h6 => ?_) (fun h6 => ?_)
              · have hq : quiet a (s.getD k default) = false := loud_iff.1 h6
                refine GE_slots (L' := [(0, _), (1, _), (9, _), (11, _), (12, _), (32, _), (33, _), (34, _)]) ⟨rfl, rfl, rfl, rfl, rfl, rfl, rfl, rfl, trivial⟩ ?_
                refine GE_plain (.st 0 (.st 1 (.ld 2 [] .nil))) rfl ?_
                refine GT_st rfl rfl rfl rfl (V_move rfl rfl) ?_
                refine GT_st rfl rfl rfl rfl (V_move rfl rfl) ?_
                refine GT_callX rfl rfl rfl rfl rfl rfl rfl rfl rn_44 (fun w m => C_end (H1 := []) (m.hs (HS.cons rfl (HS.cons rfl (HS.cons rfl (HS.chunk HS.nil))))) hO ⟨by omega, by omega⟩ ⟨by omega, by omega⟩ (by omega)) (fun _ _ => GR_nil) (fun y hy => ?_)
                refine GT_nil ?_
                refine GE_inBlock ?_
                refine GE_slots (L' := [(0, _), (1, _), (9, _), (11, _), (32, _), (33, _), (34, _)]) ⟨rfl, rfl, rfl, rfl, rfl, rfl, rfl, trivial⟩ ?_
                refine GE_plain (.st 0 (.ld 1 [] .nil)) rfl ?_
                refine GT_st rfl rfl rfl rfl (V_add rfl rfl rfl (wrap_i64 (by omega))) ?_
                refine GT_ldv rfl rfl rfl rfl rfl (V_move rfl rfl) (GR_nil) ?_
                refine GT_nil ?_
                first
                  | exact GE_to (ih (k + 1, y.1, y.2.1, y.2.2) ⟨by dsimp only; omega, by dsimp only; rw [silN_l hq]; exact hy⟩ (by dsimp only; omega)) ⟨rfl, rfl, rfl, rfl, rfl, rfl, rfl, trivial⟩ (HS.cons (by rw [silN_l hq]; rfl) (HS.cons rfl (HS.cons (by rw [silN_l hq]) HS.last)))
                  | exact GE_to (ih (k + 1, A', c', I') ⟨by dsimp only; omega, by dsimp only; rw [silN_q hq]; exact hO⟩ (by dsimp only; omega)) ⟨rfl, rfl, rfl, rfl, rfl, rfl, rfl, trivial⟩ (HS.cons (by rw [silN_q hq]) (HS.cons rfl (HS.cons (by rw [silN_q hq]) HS.last)))
              · have hq : quiet a (s.getD k default) = true := (by rw [← Bool.not_eq_false]; exact fun e => h6 (loud_iff.2 e))
                refine GE_skip ?_
                refine GE_inBlock ?_
                refine GE_slots (L' := [(0, _), (1, _), (9, _), (11, _), (32, _), (33, _), (34, _)]) ⟨rfl, rfl, rfl, rfl, rfl, rfl, rfl, trivial⟩ ?_
                refine GE_plain (.st 0 (.ld 1 [] .nil)) rfl ?_
                refine GT_st rfl rfl rfl rfl (V_add rfl rfl rfl (wrap_i64 (by omega))) ?_
                refine GT_ldv rfl rfl rfl rfl rfl (V_move rfl rfl) (GR_nil) ?_
                refine GT_nil ?_
                first
                  | exact GE_to (ih (k + 1, y.1, y.2.1, y.2.2) ⟨by dsimp only; omega, by dsimp only; rw [silN_l hq]; exact hy⟩ (by dsimp only; omega)) ⟨rfl, rfl, rfl, rfl, rfl, rfl, rfl, trivial⟩ (HS.cons (by rw [silN_l hq]; rfl) (HS.cons rfl (HS.cons (by rw [silN_l hq]) HS.last)))
                  | exact GE_to (ih (k + 1, A', c', I') ⟨by dsimp only; omega, by dsimp only; rw [silN_q hq]; exact hO⟩ (by dsimp only; omega)) ⟨rfl, rfl, rfl, rfl, rfl, rfl, rfl, trivial⟩ (HS.cons (by rw [silN_q hq]) (HS.cons rfl (HS.cons (by rw [silN_q hq]) HS.last)))
            · obtain rfl : k = s.length := (by omega)
              refine GE_exit rfl ?_
              refine GE_seq ?_
              refine GE_slots (L' := [(0, _), (9, _), (11, _)]) ⟨rfl, rfl, rfl, trivial⟩ ?_
              refine GE_plain (.st 0 (.st 1 (.st 2 (.ld 3 [] .nil)))) rfl ?_
              refine GT_st rfl rfl rfl rfl (V_move rfl rfl) ?_
              refine GT_st rfl rfl rfl rfl (V_move rfl rfl) ?_
              refine GT_st rfl rfl rfl rfl (V_len rfl Tryz.underlying37 rfl) ?_
              refine GT_callX rfl rfl rfl rfl rfl rfl rfl rfl rn_44 (fun w m => C_end (H1 := []) (m.hs (HS.cons rfl (HS.cons rfl (HS.cons rfl (HS.chunk HS.nil))))) hO ⟨by omega, by omega⟩ ⟨by omega, by omega⟩ (by omega)) (fun _ _ => GR_nil) (fun y hy => ?_)
              refine GT_nil ?_
              refine GE_seq ?_
              refine GE_slots (L' := [(9, _)]) ⟨rfl, trivial⟩ ?_
              refine GE_plain (.st 0 (.st 1 (.st 2 .nil))) rfl ?_
              refine GT_st rfl rfl rfl rfl (V_load rfl rfl ag_48 (CellAt.item rfl)) ?_
              refine GT_st rfl rfl rfl rfl (V_assign rfl rfl) ?_
              refine GT_st rfl rfl rfl rfl (V_assign rfl rfl) ?_
              refine GT_nil ?_
              refine GE_ret Tryz.func17 ⟨_, _, rfl, rfl, rfl⟩ (fun w hw => ?_)
              first | exact ⟨(y.1, y.2.1, y.2.2), by dsimp only; rw [e2]; exact hy, by dsimp only; rw [e, e2]; rfl, hw.hs (C := cx Tryz.prog hm 0 0 _ none' fun _ _ => True) HS.last⟩ | (have e : iErr s a least = 3 := (by rw [iErr, if_pos h1, if_neg]; intro q; rw [Bool.and_eq_true] at q; have q2 := betw_iff.1 q.2; first | omega | (rw [q.1] at h2; exact absurd h2 (by decide))); have e2 : silL s a least = [] := if_neg (by omega); exact ⟨(none, 0, []), by dsimp only; rw [e2]; exact Own.nil, by dsimp only; rw [e, e2]; rfl, hw.nil⟩)
          · exact ⟨Nat.zero_le _, Own.nil⟩
end
end Go.Proofs.YtdcjgjopmicidaaGreatDoor
/- Peaks and energies; the document's measures; walked. -/
namespace Go.Proofs.YtdcjgjopmicidaaGreatDoor
open Go.Sx Go.Proofs Go.RowKit

def pkN (s : List Sam) : Nat → Sam
  | 0 => ⟨0, 0⟩
  | n + 1 => ⟨max (pkN s n).l (amt (s.getD n default).l), max (pkN s n).r (amt (s.getD n default).r)⟩
def pkV (s : List Sam) : Sam := if sErr s = 0 then pkN s s.length else ⟨0, 0⟩
def egN (s : List Sam) : Nat → Sam
  | 0 => ⟨0, 0⟩
  | n + 1 => ⟨(egN s n).l + (s.getD n default).l * (s.getD n default).l, (egN s n).r + (s.getD n default).r * (s.getD n default).r⟩
def egV (s : List Sam) : Sam := if sErr s = 0 then egN s s.length else ⟨0, 0⟩
theorem sq_bd {x : Int} (h : -32767 ≤ x ∧ x ≤ 32767) : 0 ≤ x * x ∧ x * x ≤ 1073676289 := by
  have h1 : amt (x * x) = amt x * amt x := by
    unfold amt
    rcases Int.le_total 0 x with q | q
    · have := Int.mul_nonneg q q; rw [Int.max_eq_left (by omega), Int.max_eq_left (by omega)]
    · have e : x * x = -x * -x := by rw [Int.neg_mul_neg]
      have := Int.mul_nonneg (a := -x) (b := -x) (by omega) (by omega)
      rw [Int.max_eq_right (a := x) (by omega), e, Int.max_eq_left (by omega)]
  have h2 := mul_bd (amt_nonneg x) (A := 32767) (by unfold amt; omega) (amt_nonneg x) (B := 32767) (by unfold amt; omega)
  rw [← h1] at h2
  unfold amt at h2
  have h0 : 0 ≤ x * x := by
    rcases Int.le_total 0 x with q | q
    · exact Int.mul_nonneg q q
    · have := Int.mul_nonneg (a := -x) (b := -x) (by omega) (by omega); rwa [Int.neg_mul_neg] at this
  omega
theorem egN_bd {s : List Sam} (h : s.all Sam.ok = true) : ∀ n, n ≤ s.length → (0 ≤ (egN s n).l ∧ (egN s n).l ≤ n * 1073676289) ∧ (0 ≤ (egN s n).r ∧ (egN s n).r ≤ n * 1073676289) := by
  intro n
  induction n with
  | zero => intro _; simp [egN]
  | succ n ih =>
    intro hn
    have h1 := ih (by omega)
    have h2 := Sam.ok_iff.1 (all_getD.1 h n (by omega))
    have h3 := sq_bd h2.1
    have h4 := sq_bd h2.2
    simp only [egN]
    omega
section
variable {w : World} {A : Option Addr} {c : Nat} {s : List Sam}
theorem wrap_neg {n : Int} (h : I64 n) : (n = -9223372036854775808 ∧ IntKind.i64.wrap (0 - n) = -9223372036854775808) ∨ (n ≠ -9223372036854775808 ∧ IntKind.i64.wrap (0 - n) = -n) := by
  unfold I64 at h
  by_cases e : n = -9223372036854775808
  · subst e; exact .inl ⟨rfl, by decide⟩
  · exact .inr ⟨e, by rw [wrap_i64 (by omega)]; omega⟩
theorem C_rAmountW {n : Int} : Con0 Tryz.prog 115 [I n] w (I (max n (IntKind.i64.wrap (0 - n)))) := by
  refine Ret_of (vs := [_]) hm none' Tryz.func115 rfl Tryz.ntmps115 rfl ?_
  dsimp only [slotsOf]
  refine GE_seq ?_
  refine GE_plain (.st 0 .nil) rfl ?_
  refine GT_st rfl rfl rfl rfl (V_assign rfl rfl) ?_
  refine GT_nil ?_
  refine GE_seq ?_
  refine GE_plain (.st 0 (.st 1 (.st 2 (.st 3 (.st 4 .nil))))) rfl ?_
  refine GT_st rfl rfl rfl rfl (V_move rfl rfl) ?_
  refine GT_st rfl rfl rfl rfl (V_move rfl rfl) ?_
  refine GT_st rfl rfl rfl rfl (V_neg rfl rfl (rfl)) ?_
  refine GT_st rfl rfl rfl rfl (V_max rfl rfl rfl) ?_
  refine GT_st rfl rfl rfl rfl (V_assign rfl rfl) ?_
  refine GT_nil ?_
  refine GE_ret Tryz.func115 rfl (fun w hw => ⟨?_, hw.nil⟩)
  rfl
theorem C_rAmount {n : Int} (h : -9000000000000000000 ≤ n ∧ n ≤ 9000000000000000000) : Con0 Tryz.prog 115 [I n] w (I (amt n)) := by
  refine Ret_of (vs := [_]) hm none' Tryz.func115 rfl Tryz.ntmps115 rfl ?_
  dsimp only [slotsOf]
  refine GE_seq ?_
  refine GE_plain (.st 0 .nil) rfl ?_
  refine GT_st rfl rfl rfl rfl (V_assign rfl rfl) ?_
  refine GT_nil ?_
  refine GE_seq ?_
  refine GE_plain (.st 0 (.st 1 (.st 2 (.st 3 (.st 4 .nil))))) rfl ?_
  refine GT_st rfl rfl rfl rfl (V_move rfl rfl) ?_
  refine GT_st rfl rfl rfl rfl (V_move rfl rfl) ?_
  refine GT_st rfl rfl rfl rfl (V_neg rfl rfl (wrap_i64 (by omega))) ?_
  refine GT_st rfl rfl rfl rfl (V_max rfl rfl rfl) ?_
  refine GT_st rfl rfl rfl rfl (V_assign rfl rfl) ?_
  refine GT_nil ?_
  refine GE_ret Tryz.func115 rfl (fun w hw => ⟨?_, hw.nil⟩)
  refine congrArg I ?_; unfold amt; omega
theorem C_rValid {x : Sam} (hx : x.wf) : Con0 Tryz.prog 98 [.agg #[I x.l, I x.r]] w (.bool x.ok) := by
  have hd : ∀ q : Bool, (((-32767 ≤ x.l ∧ x.l ≤ 32767) ∧ (-32767 ≤ x.r ∧ x.r ≤ 32767)) ↔ q = true) → Value.bool q = Value.bool x.ok := fun q hq => congrArg Value.bool (by rw [Bool.eq_iff_iff, Sam.ok_iff, hq])
  have n1 := wrap_neg hx.1
  have n2 := wrap_neg hx.2
  refine Ret_of (vs := [_]) hm none' Tryz.func98 rfl Tryz.ntmps98 rfl ?_
  dsimp only [slotsOf]
  refine GE_seq ?_
  refine GE_plain (.ld 0 [] (.st 1 .nil)) rfl ?_
  refine GT_box (z := [_, _]) rfl rfl rfl rfl rfl rfl rfl (fun _ => GR_nil) (fun b1 => ?_)
  refine GT_st rfl rfl rfl rfl (V_assign rfl rfl) ?_
  refine GT_nil ?_
  refine GE_seq ?_
  refine GE_plain (.st 0 (.st 1 (.ld 2 [] (.st 3 (.st 4 (.st 5 (.st 6 (.ld 7 [] (.st 8 (.st 9 (.st 10 (.st 11 (.st 12 (.st 13 (.st 14 (.st 15 (.st 16 (.st 17 (.st 18 (.st 19 (.st 20 .nil))))))))))))))))))))) rfl ?_
  first | refine GT_st rfl rfl rfl rfl (V_field rfl rfl fo_52_0) ?_ | refine GT_st rfl rfl rfl rfl (V_fieldA rfl rfl fo_52_0) ?_
  refine GT_st rfl rfl rfl rfl (V_load rfl rfl ag_2 (CellAt.item rfl)) ?_
  refine GT_call0 rfl rfl rfl rfl rfl rfl rfl rfl rn_115 (fun w hw => C_rAmountW) (GR_nil) ?_
  refine GT_st rfl rfl rfl rfl (V_leq rfl rfl rfl) ?_
  refine GT_st rfl rfl rfl rfl (V_move rfl rfl) ?_
  first | refine GT_splitNot (d := 7) rfl (fun h1 => ?_) (fun h1 => ?_) | refine GT_split (d := 7) rfl (fun h1 => ?_) (fun h1 => ?_) | refine GT_splitNotB (d := 7) rfl (fun h1 => ?_) (fun h1 => ?_) | refine GT_splitB (d := 7) rfl (fun h1 => ?_) (fun h1 => ?_)
  · skip
    first | refine GT_st_g rfl rfl rfl rfl rfl rfl rfl (V_field rfl rfl fo_52_1) ?_ | refine GT_st_g rfl rfl rfl rfl rfl rfl rfl (V_fieldA rfl rfl fo_52_1) ?_
    refine GT_st_g rfl rfl rfl rfl rfl rfl rfl (V_load rfl rfl ag_2 (CellAt.item rfl)) ?_
    refine GT_call0_g rfl rfl rfl rfl rfl rfl rfl rfl rfl rfl rfl rn_115 (fun w hw => C_rAmountW) (GR_nil) ?_
    refine GT_st_g rfl rfl rfl rfl rfl rfl rfl (V_leq rfl rfl rfl) ?_
    refine GT_st rfl rfl rfl rfl (V_pick_t rfl rfl rfl) ?_
    refine GT_st rfl rfl rfl rfl (V_move rfl rfl) ?_
    first | refine GT_splitNot (d := 13) rfl (fun h2 => ?_) (fun h2 => ?_) | refine GT_split (d := 13) rfl (fun h2 => ?_) (fun h2 => ?_) | refine GT_splitNotB (d := 13) rfl (fun h2 => ?_) (fun h2 => ?_) | refine GT_splitB (d := 13) rfl (fun h2 => ?_) (fun h2 => ?_)
    · skip
      first | refine GT_st_g rfl rfl rfl rfl rfl rfl rfl (V_field rfl rfl fo_52_0) ?_ | refine GT_st_g rfl rfl rfl rfl rfl rfl rfl (V_fieldA rfl rfl fo_52_0) ?_
      refine GT_st_g rfl rfl rfl rfl rfl rfl rfl (V_load rfl rfl ag_2 (CellAt.item rfl)) ?_
      refine GT_st_g rfl rfl rfl rfl rfl rfl rfl (V_gtr rfl rfl rfl) ?_
      refine GT_st rfl rfl rfl rfl (V_pick_t rfl rfl rfl) ?_
      refine GT_st rfl rfl rfl rfl (V_move rfl rfl) ?_
      first | refine GT_splitNot (d := 18) rfl (fun h3 => ?_) (fun h3 => ?_) | refine GT_split (d := 18) rfl (fun h3 => ?_) (fun h3 => ?_) | refine GT_splitNotB (d := 18) rfl (fun h3 => ?_) (fun h3 => ?_) | refine GT_splitB (d := 18) rfl (fun h3 => ?_) (fun h3 => ?_)
      · skip
        first | refine GT_st_g rfl rfl rfl rfl rfl rfl rfl (V_field rfl rfl fo_52_1) ?_ | refine GT_st_g rfl rfl rfl rfl rfl rfl rfl (V_fieldA rfl rfl fo_52_1) ?_
        refine GT_st_g rfl rfl rfl rfl rfl rfl rfl (V_load rfl rfl ag_2 (CellAt.item rfl)) ?_
        refine GT_st_g rfl rfl rfl rfl rfl rfl rfl (V_gtr rfl rfl rfl) ?_
        refine GT_st rfl rfl rfl rfl (V_pick_t rfl rfl rfl) ?_
        refine GT_st rfl rfl rfl rfl (V_assign rfl rfl) ?_
        refine GT_nil ?_
        refine GE_ret Tryz.func98 rfl (fun w hw => ⟨?_, hw.nil⟩)
        refine hd _ ?_; generalize IntKind.i64.wrap (0 - x.l) = z1 at *; generalize IntKind.i64.wrap (0 - x.r) = z2 at *; simp only [decide_eq_true_iff, Bool.false_eq_true, iff_false]; omega
      · skip
        refine GT_skip rfl rfl rfl rfl rfl (by decide) rfl rfl ?_
        refine GT_skip rfl rfl rfl rfl rfl (by decide) rfl rfl ?_
        refine GT_skip rfl rfl rfl rfl rfl (by decide) rfl rfl ?_
        refine GT_st rfl rfl rfl rfl (V_pick_f rfl rfl rfl) ?_
        refine GT_st rfl rfl rfl rfl (V_assign rfl rfl) ?_
        refine GT_nil ?_
        refine GE_ret Tryz.func98 rfl (fun w hw => ⟨?_, hw.nil⟩)
        refine hd _ ?_; generalize IntKind.i64.wrap (0 - x.l) = z1 at *; generalize IntKind.i64.wrap (0 - x.r) = z2 at *; simp only [decide_eq_true_iff, Bool.false_eq_true, iff_false]; omega
    · skip
      refine GT_skip rfl rfl rfl rfl rfl (by decide) rfl rfl ?_
      refine GT_skip rfl rfl rfl rfl rfl (by decide) rfl rfl ?_
      refine GT_skip rfl rfl rfl rfl rfl (by decide) rfl rfl ?_
      refine GT_st rfl rfl rfl rfl (V_pick_f rfl rfl rfl) ?_
      refine GT_st rfl rfl rfl rfl (V_move rfl rfl) ?_
      refine GT_skip rfl rfl rfl rfl rfl (by decide) rfl rfl ?_
      refine GT_skip rfl rfl rfl rfl rfl (by decide) rfl rfl ?_
      refine GT_skip rfl rfl rfl rfl rfl (by decide) rfl rfl ?_
      refine GT_st rfl rfl rfl rfl (V_pick_f rfl rfl rfl) ?_
      refine GT_st rfl rfl rfl rfl (V_assign rfl rfl) ?_
      refine GT_nil ?_
      refine GE_ret Tryz.func98 rfl (fun w hw => ⟨?_, hw.nil⟩)
      refine hd _ ?_; generalize IntKind.i64.wrap (0 - x.l) = z1 at *; generalize IntKind.i64.wrap (0 - x.r) = z2 at *; simp only [decide_eq_true_iff, Bool.false_eq_true, iff_false]; omega
  · skip
    refine GT_skip rfl rfl rfl rfl rfl (by decide) rfl rfl ?_
    refine GT_skip rfl rfl rfl rfl rfl (by decide) rfl rfl ?_
    refine GT_skip_ld rfl rfl rfl rfl rfl (by decide) rfl rfl rfl (GR_nil) ?_
    refine GT_skip rfl rfl rfl rfl rfl (by decide) rfl rfl ?_
    refine GT_st rfl rfl rfl rfl (V_pick_f rfl rfl rfl) ?_
    refine GT_st rfl rfl rfl rfl (V_move rfl rfl) ?_
    refine GT_skip rfl rfl rfl rfl rfl (by decide) rfl rfl ?_
    refine GT_skip rfl rfl rfl rfl rfl (by decide) rfl rfl ?_
    refine GT_skip rfl rfl rfl rfl rfl (by decide) rfl rfl ?_
    refine GT_st rfl rfl rfl rfl (V_pick_f rfl rfl rfl) ?_
    refine GT_st rfl rfl rfl rfl (V_move rfl rfl) ?_
    refine GT_skip rfl rfl rfl rfl rfl (by decide) rfl rfl ?_
    refine GT_skip rfl rfl rfl rfl rfl (by decide) rfl rfl ?_
    refine GT_skip rfl rfl rfl rfl rfl (by decide) rfl rfl ?_
    refine GT_st rfl rfl rfl rfl (V_pick_f rfl rfl rfl) ?_
    refine GT_st rfl rfl rfl rfl (V_assign rfl rfl) ?_
    refine GT_nil ?_
    refine GE_ret Tryz.func98 rfl (fun w hw => ⟨?_, hw.nil⟩)
    refine hd _ ?_; generalize IntKind.i64.wrap (0 - x.l) = z1 at *; generalize IntKind.i64.wrap (0 - x.r) = z2 at *; simp only [decide_eq_true_iff, Bool.false_eq_true, iff_false]; omega
theorem C_rCheckSamples (h : RdL w 2 eSam A s) (hs : ∀ x ∈ s, x.wf) : Con0 Tryz.prog 82 [.slice A s.length c] w (I (sErr s)) := by
  refine Ret_of (vs := [_]) hm none' Tryz.func82 rfl Tryz.ntmps82 rfl ?_
  dsimp only [slotsOf]
  refine GE_seq ?_
  refine GE_plain (.st 0 .nil) rfl ?_
  refine GT_st rfl rfl rfl rfl (V_assign rfl rfl) ?_
  refine GT_nil ?_
  refine GE_seq ?_
  refine GE_seq ?_
  refine GE_plain (.st 0 (.st 1 (.st 2 .nil))) rfl ?_
  refine GT_st rfl rfl rfl rfl (V_move rfl rfl) ?_
  refine GT_st rfl rfl rfl rfl (V_len rfl Tryz.underlying37 rfl) ?_
  refine GT_st rfl rfl rfl rfl (V_gtr rfl rfl rfl) ?_
  refine GT_nil ?_
  first | refine GE_condNot rfl (fun h1 => ?_) (fun h1 => ?_) | refine GE_cond rfl (fun h1 => ?_) (fun h1 => ?_) | refine GE_condNotB rfl (fun h1 => ?_) (fun h1 => ?_) | refine GE_condB rfl (fun h1 => ?_) (fun h1 => ?_)
  · skip
    refine GE_seq ?_
    refine GE_slots (L' := []) trivial ?_
    refine GE_plain (.st 0 .nil) rfl ?_
    refine GT_st rfl rfl rfl rfl (V_assign rfl rfl) ?_
    refine GT_nil ?_
    refine GE_ret Tryz.func82 rfl (fun w hw => ⟨?_, hw.nil⟩)
    rw [sErr, if_pos (by omega)]
  · skip
    refine GE_skip ?_
    refine GE_seq ?_
    refine GE_seq ?_
    refine GE_slots (L' := [(0, _)]) ⟨rfl, trivial⟩ ?_
    refine GE_plain (.st 0 .nil) rfl ?_
    refine GT_st rfl rfl rfl rfl (V_assign rfl rfl) ?_
    refine GT_nil ?_
    refine GE_block ?_
    refine GE_to (GE_loop (ι := Nat) (fun k => s.length - k) (fun k => [(0, .slice A s.length c), (3, I k)]) (fun k => []) (fun k => k ≤ s.length ∧ ∀ i, i < k → Sam.ok (s.getD i default) = true) ?_ 0 ?_) ⟨rfl, rfl, trivial⟩ HS.nil
    · rintro k ⟨hk, hall⟩ ih
      refine GE_seq ?_
      refine GE_seq ?_
      refine GE_plain (.st 0 (.st 1 (.st 2 (.st 3 .nil)))) rfl ?_
      refine GT_st rfl rfl rfl rfl (V_move rfl rfl) ?_
      refine GT_st rfl rfl rfl rfl (V_move rfl rfl) ?_
      refine GT_st rfl rfl rfl rfl (V_len rfl Tryz.underlying37 rfl) ?_
      refine GT_st rfl rfl rfl rfl (V_lss rfl rfl rfl) ?_
      refine GT_nil ?_
      first | refine GE_condNot rfl (fun h2 => ?_) (fun h2 => ?_) | refine GE_cond rfl (fun h2 => ?_) (fun h2 => ?_) | refine GE_condNotB rfl (fun h2 => ?_) (fun h2 => ?_) | refine GE_condB rfl (fun h2 => ?_) (fun h2 => ?_)
      · have hkl : k < s.length := (by omega)
        refine GE_skip ?_
        refine GE_seq ?_
        refine GE_block ?_
        refine GE_seq ?_
        refine GE_slots (L' := [(0, _), (3, _)]) ⟨rfl, rfl, trivial⟩ ?_
        refine GE_plain (.st 0 (.st 1 (.st 2 (.st 3 (.ld 4 [] (.st 5 .nil)))))) rfl ?_
        refine GT_st rfl rfl rfl rfl (V_move rfl rfl) ?_
        refine GT_st rfl rfl rfl rfl (V_move rfl rfl) ?_
        refine GT_st rfl rfl rfl rfl (V_index rfl rfl rfl Tryz.underlying37 sz_52 (k := k) rfl hkl (h.isSome hkl)) ?_
        refine GT_st rfl rfl rfl rfl (V_loadN (vs := [_, _]) rfl rfl ag_52 sz_52 rfl (h.ats noM hkl)) ?_
        refine GT_call0 rfl rfl rfl rfl rfl rfl rfl rfl rn_98 (fun w hw => C_rValid (hs _ (getD_mem hkl))) (GR_nil) ?_
        first | refine GT_st rfl rfl rfl rfl (V_not rfl rfl) ?_ | refine GT_st rfl rfl rfl rfl (V_notB rfl rfl) ?_
        refine GT_nil ?_
        first | refine GE_condNot rfl (fun h3 => ?_) (fun h3 => ?_) | refine GE_cond rfl (fun h3 => ?_) (fun h3 => ?_) | refine GE_condNotB rfl (fun h3 => ?_) (fun h3 => ?_) | refine GE_condB rfl (fun h3 => ?_) (fun h3 => ?_)
        · skip
          refine GE_seq ?_
          refine GE_slots (L' := []) trivial ?_
          refine GE_plain (.st 0 .nil) rfl ?_
          refine GT_st rfl rfl rfl rfl (V_assign rfl rfl) ?_
          refine GT_nil ?_
          refine GE_ret Tryz.func82 rfl (fun w hw => ⟨?_, hw.nil⟩)
          rw [sErr, if_neg (by omega), if_neg (by rw [all_split hkl h3]; decide)]
        · skip
          refine GE_skip ?_
          refine GE_inBlock ?_
          refine GE_slots (L' := [(0, _), (3, _)]) ⟨rfl, rfl, trivial⟩ ?_
          refine GE_plain (.st 0 (.st 1 (.ld 2 [] .nil))) rfl ?_
          refine GT_st rfl rfl rfl rfl (V_move rfl rfl) ?_
          refine GT_st rfl rfl rfl rfl (V_add rfl rfl rfl (wrap_i64 (by omega))) ?_
          refine GT_ldv rfl rfl rfl rfl rfl (V_assign rfl rfl) (GR_nil) ?_
          refine GT_nil ?_
          exact GE_to (ih (k + 1) ⟨by omega, fun i hi => by rcases Nat.lt_or_ge i k with r | r; exact hall i r; rw [show i = k by omega]; exact h3⟩ (by omega)) ⟨rfl, rfl, trivial⟩ HS.nil
      · skip
        refine GE_exit rfl ?_
        refine GE_seq ?_
        refine GE_slots (L' := []) trivial ?_
        refine GE_plain (.st 0 .nil) rfl ?_
        refine GT_st rfl rfl rfl rfl (V_assign rfl rfl) ?_
        refine GT_nil ?_
        refine GE_ret Tryz.func82 rfl (fun w hw => ⟨?_, hw.nil⟩)
        rw [sErr, if_neg (by omega), if_pos (all_getD.2 fun i hi => hall i (by omega))]
    · exact ⟨Nat.zero_le _, fun i hi => absurd hi (Nat.not_lt_zero _)⟩
end
end Go.Proofs.YtdcjgjopmicidaaGreatDoor
/- The program's tables, asked once: which structs and arrays are of numbers alone. -/
namespace Go.Proofs.YtdcjgjopmicidaaGreatDoor
open Go.Sx Go.Proofs
theorem is_51 : isStruct Tryz.prog 51 2 = true := by kernel_rfl
theorem is_52 : isStruct Tryz.prog 52 2 = true := by kernel_rfl
theorem eg_53 : Tryz.prog.eqGuardType Tryz.prog.depth 53 = false := by kernel_rfl
theorem is_58 : isStruct Tryz.prog 58 7 = true := by kernel_rfl
theorem is_59 : isStruct Tryz.prog 59 7 = true := by kernel_rfl
theorem is_85 : isStruct Tryz.prog 85 2 = true := by kernel_rfl
theorem is_86 : isStruct Tryz.prog 86 2 = true := by kernel_rfl
theorem eg_91 : Tryz.prog.eqGuardType Tryz.prog.depth 91 = false := by kernel_rfl
theorem is_121 : isStruct Tryz.prog 121 2 = true := by kernel_rfl
theorem is_122 : isStruct Tryz.prog 122 2 = true := by kernel_rfl
theorem is_180 : isStruct Tryz.prog 180 2 = true := by kernel_rfl
theorem is_181 : isStruct Tryz.prog 181 2 = true := by kernel_rfl
end Go.Proofs.YtdcjgjopmicidaaGreatDoor
