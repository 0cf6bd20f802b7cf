/- Texts of this proof, one behind the other: TaL, Ta1, Tg1, Tg2, Tg3, Tg4, Tg5, Fb, Ua2, Ua3, Ua4, Ua5, Uf2, Uf3, Uf4, Uf5, Uf7, Uf6, Ud1, Ud2, Ud3. -/
import Derived.Test.YtpbflnfcgcldkaaGreatDoorProg
import Derived.Shelf.Strings.SlTrimAscii
import Derived.Ground.NamesProg
import Derived.Test.YtpbflnfcgcldkaaGreatDoorMt11
import Derived.Test.YtpbflnfcgcldkaaGreatDoorMt14
import Derived.Test.YtpbflnfcgcldkaaGreatDoorMt13
/-
  DERIVED: THE SHELF's CONTRACTS AT THIS DUMP, IN PLAIN WORDS (tools/lay-plain.mjs out of 'YtpbflnfcgcldkaaGreatDoorShelf.lean', which tools/lay-shelf.mjs wrote): THE SAME DECLARATIONS UNDER THE SAME NAMES: 'import', 'namespace', 'open', 'def', 'theorem' AND NOTHING ELSE: no command of the shelf's: FOR A HAND-IN. Each laying: the table of numbers ('.._ren') and one theorem, a field a fact of the dump's own or the kernel's comparison; each contract: ONE APPLICATION.
-/
namespace Go.Proofs
open Go.Shelf
def Tryz.lays160_ren : Go.Shelf.Ren := ⟨fun | 160 => 255 | 232 => 292 | 231 => 291 | 227 => 293 | 234 => 295 | 233 => 294 | 236 => 297 | 235 => 296 | 228 => 322 | 271 => 324 | 151 => 323 | 197 => 258 | 120 => 348 | 152 => 347 | 260 => 298 | 137 => 160 | 119 => 366 | 224 => 300 | 225 => 299 | 217 => 219 | 266 => 256 | n => n, fun | 9 => 9 | 4 => 4 | 3 => 3 | 5 => 5 | 117 => 496 | 116 => 495 | 0 => 0 | 124 => 499 | 21 => 21 | 105 => 444 | 46 => 360 | 119 => 532 | 139 => 535 | 138 => 534 | n => n, fun | 3 => 8 | 4 => 9 | n => n⟩
theorem Tryz.lays160 : Go.Proofs.Lays.n160 Tryz.prog Tryz.lays160_ren := {
  mixed := by kernel_rfl
  f119 := Tryz.func366.trans (congrArg some (by kernel_rfl))
  f120 := Tryz.func348.trans (congrArg some (by kernel_rfl))
  f137 := Tryz.func160.trans (congrArg some (by kernel_rfl))
  f151 := Tryz.func323.trans (congrArg some (by kernel_rfl))
  f152 := Tryz.func347.trans (congrArg some (by kernel_rfl))
  f160 := Tryz.func255.trans (congrArg some (by kernel_rfl))
  f197 := Tryz.func258.trans (congrArg some (by kernel_rfl))
  f217 := Tryz.func219.trans (congrArg some (by kernel_rfl))
  f224 := Tryz.func300.trans (congrArg some (by kernel_rfl))
  f225 := Tryz.func299.trans (congrArg some (by kernel_rfl))
  f227 := Tryz.func293.trans (congrArg some (by kernel_rfl))
  f228 := Tryz.func322.trans (congrArg some (by kernel_rfl))
  f231 := Tryz.func291.trans (congrArg some (by kernel_rfl))
  f232 := Tryz.func292.trans (congrArg some (by kernel_rfl))
  f233 := Tryz.func294.trans (congrArg some (by kernel_rfl))
  f234 := Tryz.func295.trans (congrArg some (by kernel_rfl))
  f235 := Tryz.func296.trans (congrArg some (by kernel_rfl))
  f236 := Tryz.func297.trans (congrArg some (by kernel_rfl))
  f260 := Tryz.func298.trans (congrArg some (by kernel_rfl))
  f266 := Tryz.func256.trans (congrArg some (by kernel_rfl))
  f271 := Tryz.func324.trans (congrArg some (by kernel_rfl))
  t0 := Tryz.underlying0
  a0 := Tryz.isAgg0
  z0 := Tryz.sizeOf0
  v0 := Tryz.zeroValue0
  t3 := Tryz.underlying3
  a3 := Tryz.isAgg3
  z3 := Tryz.sizeOf3
  v3 := Tryz.zeroValue3
  t4 := Tryz.underlying4
  a4 := Tryz.isAgg4
  z4 := Tryz.sizeOf4
  v4 := Tryz.zeroValue4
  t5 := Tryz.underlying5
  a5 := Tryz.isAgg5
  z5 := Tryz.sizeOf5
  v5 := Tryz.zeroValue5
  t9 := Tryz.underlying9
  a9 := Tryz.isAgg9
  z9 := Tryz.sizeOf9
  v9 := Tryz.zeroValue9
  t21 := Tryz.underlying21
  a21 := Tryz.isAgg21
  z21 := Tryz.sizeOf21
  v21 := Tryz.zeroValue21
  t46 := Tryz.underlying360
  a46 := Tryz.isAgg360
  z46 := Tryz.sizeOf360
  v46 := Tryz.zeroValue360
  t105 := Tryz.underlying444
  a105 := Tryz.isAgg444
  z105 := Tryz.sizeOf444
  v105 := Tryz.zeroValue444
  t116 := Tryz.underlying495
  a116 := Tryz.isAgg495
  z116 := Tryz.sizeOf495
  t117 := Tryz.underlying496
  a117 := Tryz.isAgg496
  z117 := Tryz.sizeOf496
  v117 := Tryz.zeroValue496
  t119 := Tryz.underlying532
  a119 := Tryz.isAgg532
  z119 := Tryz.sizeOf532
  t124 := Tryz.underlying499
  a124 := Tryz.isAgg499
  z124 := Tryz.sizeOf499
  v124 := Tryz.zeroValue499
  t138 := Tryz.underlying534
  a138 := Tryz.isAgg534
  z138 := Tryz.sizeOf534
  v138 := Tryz.zeroValue534
  t139 := Tryz.underlying535
  a139 := Tryz.isAgg535
  z139 := Tryz.sizeOf535
  v139 := Tryz.zeroValue535
  g3 := by kernel_rfl
  g4 := by kernel_rfl }
end Go.Proofs
/- Samples, names, takes: which are valid, walked. -/
namespace Go.Proofs.YtpbflnfcgcldkaaGreatDoor.Take
open Go.Sx Go.Proofs Go.RowKit
def cutB : List UInt8 := [97, 98, 99, 100, 101, 102, 103, 104, 105, 106, 107, 108, 109, 110, 111, 112, 113, 114, 115, 116, 117, 118, 119, 120, 121, 122, 48, 49, 50, 51, 52, 53, 54, 55, 56, 57]
theorem nmB_cut : ∀ b : UInt8, cutB.contains b = nmB b := by
  have h : ∀ n : Fin 256, cutB.contains (UInt8.ofNat n.val) = nmB (UInt8.ofNat n.val) := by decide +kernel
  intro b
  have := h ⟨b.toNat, b.toNat_lt⟩
  simpa using this
theorem dropWhile_nil {α : Type} {f : α → Bool} {l : List α} : l.dropWhile f = [] ↔ l.all f = true := by
  induction l with
  | nil => simp
  | cons x l ih =>
    rw [List.dropWhile_cons, List.all_cons]
    by_cases h : f x = true
    · rw [if_pos h, h, Bool.true_and]; exact ih
    · rw [if_neg h]; simp [h]
theorem trimS_nil {l cs : List UInt8} : Go.Lib.trimS l cs = [] ↔ l.all (cs.contains ·) = true := by
  unfold Go.Lib.trimS Go.Lib.trimLeftS Go.Lib.trimRightS
  rw [dropWhile_nil]
  constructor
  · intro h
    rw [List.all_reverse] at h
    by_cases hn : l.reverse.dropWhile (cs.contains ·) = []
    · rw [dropWhile_nil, List.all_reverse] at hn; exact hn
    · have h1 := List.head_dropWhile_not (p := (cs.contains ·)) (l := l.reverse) hn
      rw [List.all_eq_true] at h
      have h2 := h _ (List.head_mem hn)
      rw [h2] at h1; cases h1
  · intro h
    rw [dropWhile_nil.2 (by rw [List.all_reverse]; exact h)]; rfl
theorem str_nil {s : ByteArray} : s = ⟨#[]⟩ ↔ s.size = 0 := by
  constructor
  · rintro rfl; rfl
  · intro h
    obtain ⟨⟨l⟩⟩ := s
    have : l.length = 0 := h
    rw [List.length_eq_zero_iff.1 this]
theorem SH.ofBelow {w w' : World} (h : Below w.heap.size w w') : SH w none' [] w' := ⟨h.os, h.tape, h.output, h.size, fun k hk _ => h.block k hk, by simp, by simp⟩
theorem C_Trim {s : ByteArray} {w : World} (hs : s.size ≤ maxLen) : Con0 Tryz.prog 255 [.string s, .string ⟨cutB.toArray⟩] w (.string ⟨(Go.Lib.trimS s.data.toList cutB).toArray⟩) := by
  unfold maxLen at hs
  have h := Any.strings_Trim_laid Tryz.lays160 (by kernel_rfl) s ⟨cutB.toArray⟩ w (by omega) (by decide) (ascii_of_all (by decide))
  refine Calls.mono h fun e w' he => ?_
  obtain ⟨rfl, hb⟩ := he
  exact ⟨rfl, SH.ofBelow hb⟩
section
variable {w : World}
theorem C_between {x lo hi : Int} : Con0 Tryz.prog 248 [I x, I lo, I hi] w (.bool (betw x lo hi)) := by
  have hd : ∀ q : Bool, (betw x lo hi = true ↔ q = true) → Value.bool q = Value.bool (betw x lo hi) := fun q hq => congrArg Value.bool (by rw [Bool.eq_iff_iff, hq])
  refine Ret_of (vs := [_, _, _]) hm none' Tryz.func248 rfl Tryz.ntmps248 rfl ?_
  dsimp only [slotsOf]
  refine GE_seq ?_;refine GE_plain (.st 0 .nil) rfl ?_;refine GT_st rfl rfl rfl rfl (V_assign rfl rfl) ?_;refine GT_nil ?_;refine GE_seq ?_;refine GE_plain (.st 0 (.st 1 (.st 2 (.st 3 (.st 4 (.st 5 (.st 6 (.st 7 (.st 8 .nil))))))))) rfl ?_;refine GT_st rfl rfl rfl rfl (V_move rfl rfl) ?_;refine GT_st rfl rfl rfl rfl (V_move rfl rfl) ?_;refine GT_st rfl rfl rfl rfl (V_geq rfl rfl rfl) ?_;refine GT_st rfl rfl rfl rfl (V_move rfl rfl) ?_;refine GT_split (d := 10) rfl (fun h1 => ?_) (fun h1 => ?_)
  · refine GT_st_g rfl rfl rfl rfl rfl rfl rfl (V_move rfl rfl) ?_;refine GT_st_g rfl rfl rfl rfl rfl rfl rfl (V_move rfl rfl) ?_;refine GT_st_g rfl rfl rfl rfl rfl rfl rfl (V_leq rfl rfl rfl) ?_;refine GT_st rfl rfl rfl rfl (V_pick_t rfl rfl rfl) ?_;refine GT_st rfl rfl rfl rfl (V_assign rfl rfl) ?_;refine GT_nil ?_;refine GE_ret Tryz.func248 rfl (fun w hw => ⟨?_, hw.nil⟩)
    refine hd _ ?_; rw [betw_iff]; (first | (simp; done) | (simp; omega))
  · refine GT_skip rfl rfl rfl rfl rfl (by decide) rfl rfl ?_;refine GT_skip rfl rfl rfl rfl rfl (by decide) rfl rfl ?_;refine GT_skip rfl rfl rfl rfl rfl (by decide) rfl rfl ?_;refine GT_st rfl rfl rfl rfl (V_pick_f rfl rfl rfl) ?_;refine GT_st rfl rfl rfl rfl (V_assign rfl rfl) ?_;refine GT_nil ?_;refine GE_ret Tryz.func248 rfl (fun w hw => ⟨?_, hw.nil⟩)
    refine hd _ ?_; rw [betw_iff]; (first | (simp; done) | (simp; omega))
theorem C_valid {x : Sam} : Con0 Tryz.prog 254 [.agg #[I x.l, I x.r]] w (.bool x.ok) := by
  refine Ret_of (vs := [_]) hm none' Tryz.func254 rfl Tryz.ntmps254 rfl ?_
  dsimp only [slotsOf]
  refine GE_seq ?_;refine GE_plain (.ld 0 [] (.st 1 .nil)) rfl ?_;refine GT_box (z := [_, _]) rfl rfl rfl rfl rfl rfl rfl (fun _ => GR_nil) (fun b1 => ?_)
  refine GT_st rfl rfl rfl rfl (V_assign rfl rfl) ?_;refine GT_nil ?_;refine GE_seq ?_;refine GE_plain (.st 0 (.st 1 (.ld 2 [] (.st 3 (.st 4 (.st 5 (.ld 6 [] (.st 7 (.st 8 .nil))))))))) rfl ?_;refine GT_st rfl rfl rfl rfl (V_field rfl rfl fo_421_0) ?_;refine GT_st rfl rfl rfl rfl (V_load rfl rfl ag_2 (CellAt.item rfl)) ?_;refine GT_call0 rfl rfl rfl rfl rfl rfl rfl rfl rn_248 (fun w hw => C_between) (GR_nil) ?_;refine GT_st rfl rfl rfl rfl (V_move rfl rfl) ?_;refine GT_splitB (d := 6) rfl (fun h1 => ?_) (fun h1 => ?_)
  · refine GT_st_g rfl rfl rfl rfl rfl rfl rfl (V_field rfl rfl fo_421_1) ?_;refine GT_st_g rfl rfl rfl rfl rfl rfl rfl (V_load rfl rfl ag_2 (CellAt.item rfl)) ?_;refine GT_call0_g rfl rfl rfl rfl rfl rfl rfl rfl rfl rfl rfl rn_248 (fun w hw => C_between) (GR_nil) ?_;refine GT_st rfl rfl rfl rfl (V_pick_t rfl rfl rfl) ?_;refine GT_st rfl rfl rfl rfl (V_assign rfl rfl) ?_;refine GT_nil ?_;refine GE_ret Tryz.func254 rfl (fun w hw => ⟨?_, hw.nil⟩)
    unfold Sam.ok; simp_all
  · refine GT_skip rfl rfl rfl rfl rfl (by decide) rfl rfl ?_;refine GT_skip rfl rfl rfl rfl rfl (by decide) rfl rfl ?_;refine GT_skip_ld rfl rfl rfl rfl rfl (by decide) rfl rfl rfl (GR_nil) ?_;refine GT_st rfl rfl rfl rfl (V_pick_f rfl rfl rfl) ?_;refine GT_st rfl rfl rfl rfl (V_assign rfl rfl) ?_;refine GT_nil ?_;refine GE_ret Tryz.func254 rfl (fun w hw => ⟨?_, hw.nil⟩)
    unfold Sam.ok; simp_all
theorem C_isName {s : ByteArray} (hs : s.size ≤ maxLen) : Con0 Tryz.prog 218 [.string s] w (.bool (isNm s)) := by
  have e0 := str_nil (s := s)
  have e1 : (⟨(Go.Lib.trimS s.data.toList cutB).toArray⟩ : ByteArray) = ⟨#[]⟩ ↔ s.data.toList.all nmB = true := by
    have : (cutB.contains ·) = nmB := funext nmB_cut
    rw [← this, ← trimS_nil]
    constructor
    · intro h; injection h with h; simpa using h
    · intro h; rw [h]
  refine Ret_of (vs := [_]) hm none' Tryz.func218 rfl Tryz.ntmps218 rfl ?_
  dsimp only [slotsOf]
  refine GE_seq ?_;refine GE_plain (.st 0 .nil) rfl ?_;refine GT_st rfl rfl rfl rfl (V_assign rfl rfl) ?_;refine GT_nil ?_;refine GE_seq ?_;refine GE_plain (.st 0 (.st 1 (.st 2 (.st 3 (.st 4 (.st 5 (.st 6 (.st 7 (.st 8 (.ld 9 [] (.st 10 (.st 11 (.st 12 .nil))))))))))))) rfl ?_;refine GT_st rfl rfl rfl rfl (V_move rfl rfl) ?_;refine GT_st rfl rfl rfl rfl (V_neqStr rfl rfl rfl) ?_;refine GT_st rfl rfl rfl rfl (V_move rfl rfl) ?_;refine GT_splitNot (d := 5) rfl (fun h1 => ?_) (fun h1 => ?_)
  · refine GT_st_g rfl rfl rfl rfl rfl rfl rfl (V_move rfl rfl) ?_;refine GT_st_g rfl rfl rfl rfl rfl rfl rfl (V_len_str rfl Tryz.underlying9 rfl) ?_;refine GT_st_g rfl rfl rfl rfl rfl rfl rfl (V_leq rfl rfl rfl) ?_;refine GT_st rfl rfl rfl rfl (V_pick_t rfl rfl rfl) ?_;refine GT_st rfl rfl rfl rfl (V_move rfl rfl) ?_;refine GT_split (d := 10) rfl (fun h2 => ?_) (fun h2 => ?_)
    · refine GT_st_g rfl rfl rfl rfl rfl rfl rfl (V_move rfl rfl) ?_;refine GT_call0_g rfl rfl rfl rfl rfl rfl rfl rfl rfl rfl rfl rn_255 (fun w hw => C_Trim hs) (GR_nil) ?_;refine GT_st_g rfl rfl rfl rfl rfl rfl rfl (V_eqlStr rfl rfl rfl) ?_;refine GT_st rfl rfl rfl rfl (V_pick_t rfl rfl rfl) ?_;refine GT_st rfl rfl rfl rfl (V_assign rfl rfl) ?_;refine GT_nil ?_;refine GE_ret Tryz.func218 rfl (fun w hw => ⟨?_, hw.nil⟩)
      refine congrArg Value.bool ?_; unfold isNm; rw [Bool.eq_iff_iff]; simp only [Bool.and_eq_true, decide_eq_true_iff, Bool.false_eq_true, false_iff, e1]; rw [e0] at h1; first | omega | exact ⟨fun h => ⟨⟨by omega, by omega⟩, h⟩, fun h => h.2⟩
    · refine GT_skip rfl rfl rfl rfl rfl (by decide) rfl rfl ?_;refine GT_skip_ld rfl rfl rfl rfl rfl (by decide) rfl rfl rfl (GR_nil) ?_;refine GT_skip rfl rfl rfl rfl rfl (by decide) rfl rfl ?_;refine GT_st rfl rfl rfl rfl (V_pick_f rfl rfl rfl) ?_;refine GT_st rfl rfl rfl rfl (V_assign rfl rfl) ?_;refine GT_nil ?_;refine GE_ret Tryz.func218 rfl (fun w hw => ⟨?_, hw.nil⟩)
      refine congrArg Value.bool ?_; unfold isNm; rw [Bool.eq_iff_iff]; simp only [Bool.and_eq_true, decide_eq_true_iff, Bool.false_eq_true, false_iff, e1]; rw [e0] at h1; first | omega | exact ⟨fun h => ⟨⟨by omega, by omega⟩, h⟩, fun h => h.2⟩
  · refine GT_skip rfl rfl rfl rfl rfl (by decide) rfl rfl ?_;refine GT_skip rfl rfl rfl rfl rfl (by decide) rfl rfl ?_;refine GT_skip rfl rfl rfl rfl rfl (by decide) rfl rfl ?_;refine GT_st rfl rfl rfl rfl (V_pick_f rfl rfl rfl) ?_;refine GT_st rfl rfl rfl rfl (V_move rfl rfl) ?_;refine GT_skip rfl rfl rfl rfl rfl (by decide) rfl rfl ?_;refine GT_skip_ld rfl rfl rfl rfl rfl (by decide) rfl rfl rfl (GR_nil) ?_;refine GT_skip rfl rfl rfl rfl rfl (by decide) rfl rfl ?_;refine GT_st rfl rfl rfl rfl (V_pick_f rfl rfl rfl) ?_;refine GT_st rfl rfl rfl rfl (V_assign rfl rfl) ?_;refine GT_nil ?_;refine GE_ret Tryz.func218 rfl (fun w hw => ⟨?_, hw.nil⟩)
    refine congrArg Value.bool ?_; unfold isNm; rw [Bool.eq_iff_iff]; simp only [Bool.and_eq_true, decide_eq_true_iff, Bool.false_eq_true, false_iff, e1]; rw [e0] at h1; first | omega | exact ⟨fun h => ⟨⟨by omega, by omega⟩, h⟩, fun h => h.2⟩
variable {A : Option Addr} {c : Nat}
theorem C_CheckSamples {s : List Sam} (h : RdL w 2 eSam A s) : Con0 Tryz.prog 217 [.slice A s.length c] w (I (sErr s)) := by
  refine Ret_of (vs := [_]) hm none' Tryz.func217 rfl Tryz.ntmps217 rfl ?_
  dsimp only [slotsOf]
  refine GE_seq ?_;refine GE_plain (.st 0 .nil) rfl ?_;refine GT_st rfl rfl rfl rfl (V_assign rfl rfl) ?_;refine GT_nil ?_;refine GE_seq ?_;refine GE_seq ?_;refine GE_plain (.st 0 (.st 1 (.st 2 .nil))) rfl ?_;refine GT_st rfl rfl rfl rfl (V_move rfl rfl) ?_;refine GT_st rfl rfl rfl rfl (V_len rfl Tryz.underlying228 rfl) ?_;refine GT_st rfl rfl rfl rfl (V_gtr rfl rfl rfl) ?_;refine GT_nil ?_;refine GE_cond rfl (fun h1 => ?_) (fun h1 => ?_)
  · refine GE_seq ?_;refine GE_slots (L' := []) trivial ?_;refine GE_plain (.st 0 .nil) rfl ?_;refine GT_st rfl rfl rfl rfl (V_assign rfl rfl) ?_;refine GT_nil ?_;refine GE_ret Tryz.func217 rfl (fun w hw => ⟨?_, hw.nil⟩)
    rw [sErr, if_pos (by omega)]
  · refine GE_skip ?_;refine GE_seq ?_;refine GE_seq ?_;refine GE_slots (L' := [(0, _)]) ⟨rfl, trivial⟩ ?_;refine GE_plain (.st 0 (.st 1 (.st 2 .nil))) rfl ?_;refine GT_st rfl rfl rfl rfl (V_move rfl rfl) ?_;refine GT_st rfl rfl rfl rfl (V_len rfl Tryz.underlying228 rfl) ?_;refine GT_st rfl rfl rfl rfl (V_move rfl rfl) ?_;refine GT_nil ?_;refine GE_block ?_;refine GE_to (GE_loop (ι := Nat) (fun k => s.length - k) (fun k => [(8, .slice A s.length c), (9, I s.length), (10, I k)]) (fun k => []) (fun k => k ≤ s.length ∧ ∀ i, i < k → Sam.ok (s.getD i default) = true) ?_ 0 ?_) ⟨rfl, rfl, rfl, trivial⟩ HS.nil
    · rintro k ⟨hk, hall⟩ ih
      refine GE_seq ?_;refine GE_plain (.st 0 .nil) rfl ?_;refine GT_st rfl rfl rfl rfl (V_lss rfl rfl rfl) ?_;refine GT_nil ?_;refine GE_seq ?_;refine GE_cond rfl (fun h2 => ?_) (fun h2 => ?_)
      · have hkl : k < s.length := (by omega)
        refine GE_skip ?_;refine GE_seq ?_;refine GE_block ?_;refine GE_seq ?_;refine GE_plain (.st 0 (.st 1 (.ld 2 [] (.ld 3 [] .nil)))) rfl ?_;refine GT_st rfl rfl rfl rfl (V_index rfl rfl rfl Tryz.underlying228 sz_421 (k := k) rfl hkl (h.isSome hkl)) ?_;refine GT_st rfl rfl rfl rfl (V_loadN (vs := [_, _]) rfl rfl ag_421 sz_421 rfl (h.ats noM hkl)) ?_;refine GT_alloc rfl rfl rfl rfl rfl zc_421 (fun _ => GR_nil) (fun b4 => ?_)
        refine GT_store (vs := [_, _]) (l' := [_, _]) rfl rfl rfl rfl rfl rfl rfl sz_421 rfl rfl (Nat.le_of_ble_eq_true rfl) rfl (GR_nil) ?_;refine GT_nil ?_;refine GE_seq ?_;refine GE_plain (.st 0 (.ld 1 [] (.st 2 .nil))) rfl ?_;refine GT_st rfl rfl rfl rfl (V_loadN (vs := [_, _]) rfl rfl ag_421 sz_421 rfl (CellsAt.item rfl)) ?_;refine GT_call0 rfl rfl rfl rfl rfl rfl rfl rfl rn_254 (fun w hw => C_valid) (GR_nil) ?_;refine GT_st rfl rfl rfl rfl (V_notB rfl rfl) ?_;refine GT_nil ?_;refine GE_condNotB rfl (fun h3 => ?_) (fun h3 => ?_)
        · refine GE_seq ?_;refine GE_slots (L' := []) trivial ?_;refine GE_plain (.st 0 .nil) rfl ?_;refine GT_st rfl rfl rfl rfl (V_assign rfl rfl) ?_;refine GT_nil ?_;refine GE_ret Tryz.func217 rfl (fun w hw => ⟨?_, hw.nil⟩)
          rw [sErr, if_neg (by omega), if_neg (by rw [all_split hkl h3]; decide)]
        · refine GE_skip ?_;refine GE_inBlock ?_;refine GE_slots (L' := [(8, _), (9, _), (10, _)]) ⟨rfl, rfl, rfl, trivial⟩ ?_;refine GE_plain (.st 0 (.ld 1 [] .nil)) rfl ?_;refine GT_st rfl rfl rfl rfl (V_add rfl rfl rfl (wrap_i64 (by omega))) ?_;refine GT_ldv rfl rfl rfl rfl rfl (V_move rfl rfl) (GR_nil) ?_;refine GT_nil ?_
          exact GE_to (ih (k + 1) ⟨by omega, fun i hi => by rcases Nat.lt_or_ge i k with r | r; exact hall i r; rw [show i = k by omega]; exact h3⟩ (by omega)) ⟨rfl, rfl, rfl, trivial⟩ HS.nil
      · refine GE_exit rfl ?_;refine GE_seq ?_;refine GE_slots (L' := []) trivial ?_;refine GE_plain (.st 0 .nil) rfl ?_;refine GT_st rfl rfl rfl rfl (V_assign rfl rfl) ?_;refine GT_nil ?_;refine GE_ret Tryz.func217 rfl (fun w hw => ⟨?_, hw.nil⟩)
        rw [sErr, if_neg (by omega), if_pos (all_getD.2 fun i hi => hall i (by omega))]
    · exact ⟨Nat.zero_le _, fun i hi => absurd hi (Nat.not_lt_zero _)⟩
theorem C_CheckSamplesN {s : List Sam} {n : Nat} (hn : s.length = n) (h : RdL w 2 eSam A s) : Con0 Tryz.prog 217 [.slice A n c] w (I (sErr s)) := hn ▸ C_CheckSamples h
theorem C_checkTake {t : Tk} (h : RdL w 2 eSam t.A t.data) (hn : t.name.size ≤ maxLen) : Con0 Tryz.prog 158 [.agg #[.string t.name, .slice t.A t.data.length t.c]] w (I (tErr t)) := by
  have hq : tErr t = if sErr t.data = 6 then 6 else if isNm t.name = true ∧ t.data.length ≠ 0 then sErr t.data else 2 := by
    unfold tErr sErr
    by_cases h1 : 4096 < t.data.length
    · simp [h1]
    · by_cases h2 : t.data.all Sam.ok = true <;> by_cases h3 : isNm t.name = true <;> by_cases h4 : t.data.length = 0 <;> simp [h1, h2, h3, h4]
  refine Ret_of (vs := [_]) hm none' Tryz.func158 rfl Tryz.ntmps158 rfl ?_
  dsimp only [slotsOf]
  refine GE_seq ?_;refine GE_plain (.ld 0 [] (.st 1 .nil)) rfl ?_;refine GT_box (z := [_, _]) rfl rfl rfl rfl rfl rfl rfl (fun _ => GR_nil) (fun b1 => ?_)
  refine GT_st rfl rfl rfl rfl (V_assign rfl rfl) ?_;refine GT_nil ?_;refine GE_seq ?_;refine GE_plain (.st 0 (.st 1 (.ld 2 [] (.st 3 .nil)))) rfl ?_;refine GT_st rfl rfl rfl rfl (V_field rfl rfl fo_230_1) ?_;refine GT_st rfl rfl rfl rfl (V_load rfl rfl ag_228 (CellAt.item rfl)) ?_;refine GT_call0 rfl rfl rfl rfl rfl rfl rfl rfl rn_217 (fun w hw => C_CheckSamples (h.sh hw)) (GR_nil) ?_;refine GT_st rfl rfl rfl rfl (V_assign rfl rfl) ?_;refine GT_nil ?_;refine GE_seq ?_;refine GE_seq ?_;refine GE_slots (L' := [(1, _), (3, _)]) ⟨rfl, rfl, trivial⟩ ?_;refine GE_plain (.st 0 (.st 1 (.st 2 (.st 3 (.st 4 (.ld 5 [] (.st 6 (.st 7 (.st 8 (.st 9 (.st 10 (.st 11 (.st 12 (.st 13 .nil)))))))))))))) rfl ?_;refine GT_st rfl rfl rfl rfl (V_move rfl rfl) ?_;refine GT_st rfl rfl rfl rfl (V_neq rfl rfl rfl) ?_;refine GT_st rfl rfl rfl rfl (V_move rfl rfl) ?_;refine GT_splitNot (d := 9) rfl (fun h1 => ?_) (fun h1 => ?_)
  · refine GT_st_g rfl rfl rfl rfl rfl rfl rfl (V_field rfl rfl fo_230_0) ?_;refine GT_st_g rfl rfl rfl rfl rfl rfl rfl (V_load rfl rfl ag_9 (CellAt.item rfl)) ?_;refine GT_call0_g rfl rfl rfl rfl rfl rfl rfl rfl rfl rfl rfl rn_218 (fun w hw => C_isName hn) (GR_nil) ?_;refine GT_st_g rfl rfl rfl rfl rfl rfl rfl (V_notB rfl rfl) ?_;refine GT_st_g rfl rfl rfl rfl rfl rfl rfl (V_move rfl rfl) ?_;refine GT_splitNotB (d := 14) rfl (fun h2 => ?_) (fun h2 => ?_)
    · refine GT_skip rfl rfl rfl rfl rfl (by decide) rfl rfl ?_;refine GT_skip rfl rfl rfl rfl rfl (by decide) rfl rfl ?_;refine GT_skip rfl rfl rfl rfl rfl (by decide) rfl rfl ?_;refine GT_skip rfl rfl rfl rfl rfl (by decide) rfl rfl ?_;refine GT_st_g rfl rfl rfl rfl rfl rfl rfl (V_pick_t rfl rfl rfl) ?_;refine GT_st rfl rfl rfl rfl (V_pick_t rfl rfl rfl) ?_;refine GT_nil ?_;refine GE_cond_t rfl ?_;refine GE_slots (L' := []) trivial ?_;refine GE_plain (.st 0 .nil) rfl ?_;refine GT_st rfl rfl rfl rfl (V_assign rfl rfl) ?_;refine GT_nil ?_;refine GE_seq ?_;refine GE_plain (.st 0 (.st 1 .nil)) rfl ?_;refine GT_st rfl rfl rfl rfl (V_move rfl rfl) ?_;refine GT_st rfl rfl rfl rfl (V_assign rfl rfl) ?_;refine GT_nil ?_;refine GE_ret Tryz.func158 rfl (fun w hw => ⟨?_, hw.nil⟩)
      refine congrArg I ?_; rw [hq]; simp_all
    · refine GT_st_g rfl rfl rfl rfl rfl rfl rfl (V_field rfl rfl fo_230_1) ?_;refine GT_st_g rfl rfl rfl rfl rfl rfl rfl (V_load rfl rfl ag_228 (CellAt.item rfl)) ?_;refine GT_st_g rfl rfl rfl rfl rfl rfl rfl (V_len rfl Tryz.underlying228 rfl) ?_;refine GT_st_g rfl rfl rfl rfl rfl rfl rfl (V_eql rfl rfl rfl) ?_;refine GT_st_g rfl rfl rfl rfl rfl rfl rfl (V_pick_f rfl rfl rfl) ?_;refine GT_st rfl rfl rfl rfl (V_pick_t rfl rfl rfl) ?_;refine GT_nil ?_;refine GE_cond rfl (fun h1 => ?_) (fun h1 => ?_)
      · refine GE_slots (L' := []) trivial ?_;refine GE_plain (.st 0 .nil) rfl ?_;refine GT_st rfl rfl rfl rfl (V_assign rfl rfl) ?_;refine GT_nil ?_;refine GE_seq ?_;refine GE_plain (.st 0 (.st 1 .nil)) rfl ?_;refine GT_st rfl rfl rfl rfl (V_move rfl rfl) ?_;refine GT_st rfl rfl rfl rfl (V_assign rfl rfl) ?_;refine GT_nil ?_;refine GE_ret Tryz.func158 rfl (fun w hw => ⟨?_, hw.nil⟩)
        refine congrArg I ?_; rw [hq]; simp_all
      · refine GE_skip ?_;refine GE_seq ?_;refine GE_slots (L' := [(3, _)]) ⟨rfl, trivial⟩ ?_;refine GE_plain (.st 0 (.st 1 .nil)) rfl ?_;refine GT_st rfl rfl rfl rfl (V_move rfl rfl) ?_;refine GT_st rfl rfl rfl rfl (V_assign rfl rfl) ?_;refine GT_nil ?_;refine GE_ret Tryz.func158 rfl (fun w hw => ⟨?_, hw.nil⟩)
        refine congrArg I ?_; rw [hq]; simp_all
  · refine GT_skip rfl rfl rfl rfl rfl (by decide) rfl rfl ?_;refine GT_skip rfl rfl rfl rfl rfl (by decide) rfl rfl ?_;refine GT_skip_ld rfl rfl rfl rfl rfl (by decide) rfl rfl rfl (GR_nil) ?_;refine GT_skip rfl rfl rfl rfl rfl (by decide) rfl rfl ?_;refine GT_skip rfl rfl rfl rfl rfl (by decide) rfl rfl ?_;refine GT_skip rfl rfl rfl rfl rfl (by decide) rfl rfl ?_;refine GT_skip rfl rfl rfl rfl rfl (by decide) rfl rfl ?_;refine GT_skip rfl rfl rfl rfl rfl (by decide) rfl rfl ?_;refine GT_skip rfl rfl rfl rfl rfl (by decide) rfl rfl ?_;refine GT_skip rfl rfl rfl rfl rfl (by decide) rfl rfl ?_;refine GT_st rfl rfl rfl rfl (V_pick_f rfl rfl rfl) ?_;refine GT_nil ?_;refine GE_cond_f rfl ?_;refine GE_skip ?_;refine GE_seq ?_;refine GE_slots (L' := [(3, _)]) ⟨rfl, trivial⟩ ?_;refine GE_plain (.st 0 (.st 1 .nil)) rfl ?_;refine GT_st rfl rfl rfl rfl (V_move rfl rfl) ?_;refine GT_st rfl rfl rfl rfl (V_assign rfl rfl) ?_;refine GT_nil ?_;refine GE_ret Tryz.func158 rfl (fun w hw => ⟨?_, hw.nil⟩)
    refine congrArg I ?_; rw [hq]; simp_all
theorem lErr_six {l : List Tk} {k : Nat} (hk : k < l.length) (h : tErr (l.getD k default) = 6) : lErr l = 6 := by
  unfold lErr
  split
  · rfl
  · rw [if_pos (by rw [List.any_eq_true]; exact ⟨_, getD_mem hk, decide_eq_true h⟩)]
theorem map_take_succ {l : List Tk} {k : Nat} (hk : k < l.length) : (l.take (k + 1)).map Tk.name = (l.take k).map Tk.name ++ [(l.getD k default).name] := by
  rw [List.take_add_one, List.getElem?_eq_getElem hk, List.map_append]; simp [List.getD, hk]
theorem lErr_fin {l : List Tk} {wo : Int} {ks : List KV} (h1 : 1 ≤ l.length ∧ l.length ≤ 16) (h6 : ∀ i, i < l.length → tErr (l.getD i default) ≠ 6)
    (hwo : (wo = 0 ∧ ∀ i, i < l.length → tErr (l.getD i default) = 0) ∨ (wo = 2 ∧ ∃ i, i < l.length ∧ tErr (l.getD i default) ≠ 0)) (hks : ks.map (·.1) = uniq ((l.take l.length).map Tk.name)) :
    lErr l = if wo = 0 then (if (ks.length : Int) < l.length then 12 else 0) else wo := by
  have n6 : ¬ l.any (fun t => decide (tErr t = 6)) = true := by
    rw [List.any_eq_true]; rintro ⟨t, ht, e⟩
    obtain ⟨i, hi, rfl⟩ := List.getElem_of_mem ht
    have := h6 i hi
    simp [List.getD, hi] at this e; exact this e
  have hl := uniq_len (l.map Tk.name)
  rw [List.take_length] at hks
  rw [← hks, List.length_map, List.length_map] at hl
  unfold lErr
  rw [if_neg (by omega), if_neg n6]
  rcases hwo with ⟨rfl, h0⟩ | ⟨rfl, i, hi, h0⟩
  · have n2 : ¬ l.any (fun t => decide (tErr t ≠ 0)) = true := by
      rw [List.any_eq_true]; rintro ⟨t, ht, e⟩
      obtain ⟨i, hi, rfl⟩ := List.getElem_of_mem ht
      have := h0 i hi
      simp [List.getD, hi] at this e; exact e this
    rw [if_neg n2, if_pos rfl]
    by_cases hq : (l.map Tk.name).Nodup
    · rw [if_pos hq, if_neg]; have := hl.2.2 hq; omega
    · rw [if_neg hq, if_pos]
      have : ks.length ≠ l.length := fun e => hq (hl.2.1 e)
      omega
  · rw [if_pos, if_neg (by omega)]
    rw [List.any_eq_true]
    exact ⟨_, getD_mem hi, decide_eq_true h0⟩
set_option maxRecDepth 10000 in
theorem C_CheckTakes {l : List Tk} (h : Tks w A l) : Con0 Tryz.prog 103 [.slice A l.length c] w (I (lErr l)) := by
  refine Ret_of (vs := [_]) hm none' Tryz.func103 rfl Tryz.ntmps103 rfl ?_
  dsimp only [slotsOf]
  refine GE_seq ?_;refine GE_plain (.st 0 .nil) rfl ?_;refine GT_st rfl rfl rfl rfl (V_assign rfl rfl) ?_;refine GT_nil ?_;refine GE_seq ?_;refine GE_seq ?_;refine GE_plain (.st 0 (.st 1 (.st 2 (.st 3 (.st 4 (.st 5 (.st 6 (.st 7 .nil)))))))) rfl ?_;refine GT_st rfl rfl rfl rfl (V_move rfl rfl) ?_;refine GT_st rfl rfl rfl rfl (V_len rfl Tryz.underlying107 rfl) ?_;refine GT_st rfl rfl rfl rfl (V_lss rfl rfl rfl) ?_;refine GT_st rfl rfl rfl rfl (V_move rfl rfl) ?_;refine GT_split (d := 11) rfl (fun h1 => ?_) (fun h1 => ?_)
  · refine GT_skip rfl rfl rfl rfl rfl (by decide) rfl rfl ?_;refine GT_skip rfl rfl rfl rfl rfl (by decide) rfl rfl ?_;refine GT_skip rfl rfl rfl rfl rfl (by decide) rfl rfl ?_;refine GT_st rfl rfl rfl rfl (V_pick_t rfl rfl rfl) ?_;refine GT_nil ?_;refine GE_cond_t rfl ?_;refine GE_seq ?_;refine GE_slots (L' := []) trivial ?_;refine GE_plain (.st 0 .nil) rfl ?_;refine GT_st rfl rfl rfl rfl (V_assign rfl rfl) ?_;refine GT_nil ?_;refine GE_ret Tryz.func103 rfl (fun w hw => ⟨?_, hw.nil⟩)
    refine congrArg I ?_; first | (rw [hfin]; simp_all; done) | (rw [lErr, if_pos (by omega)])
  · refine GT_st_g rfl rfl rfl rfl rfl rfl rfl (V_move rfl rfl) ?_;refine GT_st_g rfl rfl rfl rfl rfl rfl rfl (V_len rfl Tryz.underlying107 rfl) ?_;refine GT_st_g rfl rfl rfl rfl rfl rfl rfl (V_gtr rfl rfl rfl) ?_;refine GT_st rfl rfl rfl rfl (V_pick_f rfl rfl rfl) ?_;refine GT_nil ?_;refine GE_cond rfl (fun h2 => ?_) (fun h2 => ?_)
    · refine GE_seq ?_;refine GE_slots (L' := []) trivial ?_;refine GE_plain (.st 0 .nil) rfl ?_;refine GT_st rfl rfl rfl rfl (V_assign rfl rfl) ?_;refine GT_nil ?_;refine GE_ret Tryz.func103 rfl (fun w hw => ⟨?_, hw.nil⟩)
      refine congrArg I ?_; rw [lErr, if_pos (by omega)]
    · refine GE_skip ?_;refine GE_seq ?_;refine GE_slots (L' := [(0, _)]) ⟨rfl, trivial⟩ ?_;refine GE_plain (.st 0 .nil) rfl ?_;refine GT_st rfl rfl rfl rfl (V_assign rfl rfl) ?_;refine GT_nil ?_;refine GE_seq ?_;refine GE_plain (.ld 0 [] (.st 1 .nil)) rfl ?_;refine GT_makeMap rfl rfl rfl rfl rfl (fun _ => GR_nil) (fun b16 => ?_)
      refine GT_st rfl rfl rfl rfl (V_assign rfl rfl) ?_;refine GT_nil ?_;refine GE_seq ?_;refine GE_seq ?_;refine GE_plain (.st 0 (.st 1 (.st 2 .nil))) rfl ?_;refine GT_st rfl rfl rfl rfl (V_move rfl rfl) ?_;refine GT_st rfl rfl rfl rfl (V_len rfl Tryz.underlying107 rfl) ?_;refine GT_st rfl rfl rfl rfl (V_move rfl rfl) ?_;refine GT_nil ?_;refine GE_block ?_;refine GE_to (GE_loop (ι := Nat × Int × List KV) (fun x => l.length - x.1) (fun x => [(0, .slice A l.length c), (3, I x.2.1), (4, .map (some b16)), (17, .slice A l.length c), (18, I l.length), (19, I x.1)]) (fun x => [(b16, mobj x.2.2)]) (fun x => x.1 ≤ l.length ∧ (∀ i, i < x.1 → tErr (l.getD i default) ≠ 6) ∧ ((x.2.1 = 0 ∧ ∀ i, i < x.1 → tErr (l.getD i default) = 0) ∨ (x.2.1 = 2 ∧ ∃ i, i < x.1 ∧ tErr (l.getD i default) ≠ 0)) ∧ x.2.2.map (·.1) = uniq ((l.take x.1).map Tk.name) ∧ ∀ e ∈ x.2.2, 0 ≤ e.2 ∧ e.2 ≤ x.1) ?_ (0, 0, []) ?_) ⟨rfl, rfl, rfl, rfl, rfl, rfl, trivial⟩ (HS.cons rfl HS.nil)
      · rintro ⟨k, wo, ks⟩ ⟨hk, h6, hwo, hks, hkb⟩ ih; dsimp only at hk h6 hwo hks hkb ih ⊢
        refine GE_seq ?_;refine GE_plain (.st 0 .nil) rfl ?_;refine GT_st rfl rfl rfl rfl (V_lss rfl rfl rfl) ?_;refine GT_nil ?_;refine GE_seq ?_;refine GE_cond rfl (fun h3 => ?_) (fun h3 => ?_)
        · have hkl : k < l.length := (by omega); have ht := h.2 _ (getD_mem hkl); have hmg := mget_bd hkb (Int.natCast_nonneg k) (k := (l.getD k default).name)
          refine GE_skip ?_;refine GE_seq ?_;refine GE_block ?_;refine GE_seq ?_;refine GE_plain (.st 0 (.st 1 (.ld 2 [] (.ld 3 [] .nil)))) rfl ?_;refine GT_st rfl rfl rfl rfl (V_index rfl rfl rfl Tryz.underlying107 sz_230 (k := k) rfl hkl (h.1.isSome hkl)) ?_;refine GT_st rfl rfl rfl rfl (V_loadN (vs := [_, _]) rfl rfl ag_230 sz_230 rfl (h.1.ats noM hkl)) ?_;refine GT_alloc rfl rfl rfl rfl rfl zc_230 (fun _ => GR_nil) (fun b6 => ?_)
          refine GT_store (vs := [_, _]) (l' := [_, _]) rfl rfl rfl rfl rfl rfl rfl sz_230 rfl rfl (Nat.le_of_ble_eq_true rfl) rfl (GR_nil) ?_;refine GT_nil ?_;refine GE_seq ?_;refine GE_seq ?_;refine GE_plain (.st 0 (.ld 1 [] (.st 2 .nil))) rfl ?_;refine GT_st rfl rfl rfl rfl (V_loadN (vs := [_, _]) rfl rfl ag_230 sz_230 rfl (CellsAt.item rfl)) ?_;refine GT_call0 rfl rfl rfl rfl rfl rfl rfl rfl rn_158 (fun w hw => C_checkTake (t := l.getD k default) (ht.1.sh hw) ht.2.1) (GR_nil) ?_;refine GT_st rfl rfl rfl rfl (V_assign rfl rfl) ?_;refine GT_nil ?_;refine GE_block ?_;refine GE_seq ?_;refine GE_slots (L' := [(0, _), (3, _), (4, _), (6, _), (7, _), (17, _), (18, _), (19, _)]) ⟨rfl, rfl, rfl, rfl, rfl, rfl, rfl, rfl, trivial⟩ ?_;refine GE_plain (.st 0 (.st 1 (.st 2 .nil))) rfl ?_;refine GT_st rfl rfl rfl rfl (V_move rfl rfl) ?_;refine GT_st rfl rfl rfl rfl (V_eql rfl rfl rfl) ?_;refine GT_st rfl rfl rfl rfl (V_assign rfl rfl) ?_;refine GT_nil ?_;refine GE_cond rfl (fun h4 => ?_) (fun h4 => ?_)
          · refine GE_seq ?_;refine GE_slots (L' := [(7, _)]) ⟨rfl, trivial⟩ ?_;refine GE_plain (.st 0 (.st 1 .nil)) rfl ?_;refine GT_st rfl rfl rfl rfl (V_move rfl rfl) ?_;refine GT_st rfl rfl rfl rfl (V_assign rfl rfl) ?_;refine GT_nil ?_;refine GE_ret Tryz.func103 rfl (fun w hw => ⟨?_, hw.nil⟩)
            rw [lErr_six hkl h4]; exact congrArg I h4
          · refine GE_seq ?_;refine GE_plain (.st 0 (.st 1 (.st 2 .nil))) rfl ?_;refine GT_st rfl rfl rfl rfl (V_move rfl rfl) ?_;refine GT_st rfl rfl rfl rfl (V_neq rfl rfl rfl) ?_;refine GT_st rfl rfl rfl rfl (V_assign rfl rfl) ?_;refine GT_nil ?_;refine GE_condNot rfl (fun h5 => ?_) (fun h5 => ?_)
            · refine GE_slots (L' := [(0, _), (4, _), (6, _), (7, _), (17, _), (18, _), (19, _)]) ⟨rfl, rfl, rfl, rfl, rfl, rfl, rfl, trivial⟩ ?_;refine GE_plain (.st 0 (.st 1 .nil)) rfl ?_;refine GT_st rfl rfl rfl rfl (V_move rfl rfl) ?_;refine GT_st rfl rfl rfl rfl (V_assign rfl rfl) ?_;refine GT_nil ?_;refine GE_inBlock ?_;refine GE_plain (.st 0 (.st 1 (.st 2 (.st 3 (.st 4 (.ld 5 [] .nil)))))) rfl ?_;refine GT_st rfl rfl rfl rfl (V_move rfl rfl) ?_;refine GT_st rfl rfl rfl rfl (V_field rfl rfl fo_230_0) ?_;refine GT_st rfl rfl rfl rfl (V_load rfl rfl ag_9 (CellAt.item rfl)) ?_;refine GT_st rfl rfl rfl rfl (V_lookup rfl rfl rfl Tryz.underlying240 Tryz.underlying9 zv_3) ?_;refine GT_st rfl rfl rfl rfl (V_add rfl rfl rfl (wrap_i64 (by omega))) ?_;refine GT_mapUpdate rfl rfl rfl rfl rfl rfl rfl Tryz.underlying240 Tryz.underlying9 (GR_nil) ?_;refine GT_nil ?_;refine GE_inBlock ?_;refine GE_slots (L' := [(0, _), (3, _), (4, _), (17, _), (18, _), (19, _)]) ⟨rfl, rfl, rfl, rfl, rfl, rfl, trivial⟩ ?_;refine GE_plain (.st 0 (.ld 1 [] .nil)) rfl ?_;refine GT_st rfl rfl rfl rfl (V_add rfl rfl rfl (wrap_i64 (by omega))) ?_;refine GT_ldv rfl rfl rfl rfl rfl (V_move rfl rfl) (GR_nil) ?_;refine GT_nil ?_
              first
                | exact GE_to (ih (k + 1, tErr (l.getD k default), mput ks (l.getD k default).name (mget ks (l.getD k default).name + 1)) ⟨by dsimp only; omega, fun i hi => by rcases Nat.lt_or_ge i k with r | r; exact h6 i r; rw [show i = k by dsimp only at hi; omega]; exact h4, .inr ⟨by have := tErr_cases (l.getD k default); dsimp only; omega, k, by dsimp only; omega, h5⟩, by dsimp only; rw [mput_keys, hks, map_take_succ hkl, uniq_snoc], by dsimp only; exact mput_bd (fun e he => by have := hkb e he; omega) (by omega)⟩ (by dsimp only; omega)) ⟨rfl, rfl, rfl, rfl, rfl, rfl, trivial⟩ (HS.cons rfl HS.nil)
                | exact GE_to (ih (k + 1, wo, mput ks (l.getD k default).name (mget ks (l.getD k default).name + 1)) ⟨by dsimp only; omega, fun i hi => by rcases Nat.lt_or_ge i k with r | r; exact h6 i r; rw [show i = k by dsimp only at hi; omega]; exact h4, by rcases hwo with ⟨e, hz⟩ | ⟨e, i, hi, hn⟩; exact .inl ⟨e, fun i hi => by rcases Nat.lt_or_ge i k with r | r; exact hz i r; rw [show i = k by dsimp only at hi; omega]; exact h5⟩; exact .inr ⟨e, i, by dsimp only; omega, hn⟩, by dsimp only; rw [mput_keys, hks, map_take_succ hkl, uniq_snoc], by dsimp only; exact mput_bd (fun e he => by have := hkb e he; omega) (by omega)⟩ (by dsimp only; omega)) ⟨rfl, rfl, rfl, rfl, rfl, rfl, trivial⟩ (HS.cons rfl HS.nil)
            · refine GE_skip ?_;refine GE_inBlock ?_;refine GE_slots (L' := [(0, _), (3, _), (4, _), (6, _), (17, _), (18, _), (19, _)]) ⟨rfl, rfl, rfl, rfl, rfl, rfl, rfl, trivial⟩ ?_;refine GE_plain (.st 0 (.st 1 (.st 2 (.st 3 (.st 4 (.ld 5 [] .nil)))))) rfl ?_;refine GT_st rfl rfl rfl rfl (V_move rfl rfl) ?_;refine GT_st rfl rfl rfl rfl (V_field rfl rfl fo_230_0) ?_;refine GT_st rfl rfl rfl rfl (V_load rfl rfl ag_9 (CellAt.item rfl)) ?_;refine GT_st rfl rfl rfl rfl (V_lookup rfl rfl rfl Tryz.underlying240 Tryz.underlying9 zv_3) ?_;refine GT_st rfl rfl rfl rfl (V_add rfl rfl rfl (wrap_i64 (by omega))) ?_;refine GT_mapUpdate rfl rfl rfl rfl rfl rfl rfl Tryz.underlying240 Tryz.underlying9 (GR_nil) ?_;refine GT_nil ?_;refine GE_inBlock ?_;refine GE_slots (L' := [(0, _), (3, _), (4, _), (17, _), (18, _), (19, _)]) ⟨rfl, rfl, rfl, rfl, rfl, rfl, trivial⟩ ?_;refine GE_plain (.st 0 (.ld 1 [] .nil)) rfl ?_;refine GT_st rfl rfl rfl rfl (V_add rfl rfl rfl (wrap_i64 (by omega))) ?_;refine GT_ldv rfl rfl rfl rfl rfl (V_move rfl rfl) (GR_nil) ?_;refine GT_nil ?_
              first
                | exact GE_to (ih (k + 1, tErr (l.getD k default), mput ks (l.getD k default).name (mget ks (l.getD k default).name + 1)) ⟨by dsimp only; omega, fun i hi => by rcases Nat.lt_or_ge i k with r | r; exact h6 i r; rw [show i = k by dsimp only at hi; omega]; exact h4, .inr ⟨by have := tErr_cases (l.getD k default); dsimp only; omega, k, by dsimp only; omega, h5⟩, by dsimp only; rw [mput_keys, hks, map_take_succ hkl, uniq_snoc], by dsimp only; exact mput_bd (fun e he => by have := hkb e he; omega) (by omega)⟩ (by dsimp only; omega)) ⟨rfl, rfl, rfl, rfl, rfl, rfl, trivial⟩ (HS.cons rfl HS.nil)
                | exact GE_to (ih (k + 1, wo, mput ks (l.getD k default).name (mget ks (l.getD k default).name + 1)) ⟨by dsimp only; omega, fun i hi => by rcases Nat.lt_or_ge i k with r | r; exact h6 i r; rw [show i = k by dsimp only at hi; omega]; exact h4, by rcases hwo with ⟨e, hz⟩ | ⟨e, i, hi, hn⟩; exact .inl ⟨e, fun i hi => by rcases Nat.lt_or_ge i k with r | r; exact hz i r; rw [show i = k by dsimp only at hi; omega]; exact h5⟩; exact .inr ⟨e, i, by dsimp only; omega, hn⟩, by dsimp only; rw [mput_keys, hks, map_take_succ hkl, uniq_snoc], by dsimp only; exact mput_bd (fun e he => by have := hkb e he; omega) (by omega)⟩ (by dsimp only; omega)) ⟨rfl, rfl, rfl, rfl, rfl, rfl, trivial⟩ (HS.cons rfl HS.nil)
        · obtain rfl : k = l.length := (by omega); have hfin := lErr_fin (by omega) h6 hwo hks
          refine GE_exit rfl ?_;refine GE_seq ?_;refine GE_seq ?_;refine GE_slots (L' := [(0, _), (3, _), (4, _)]) ⟨rfl, rfl, rfl, trivial⟩ ?_;refine GE_plain (.st 0 (.st 1 (.st 2 (.st 3 (.st 4 (.st 5 (.st 6 (.st 7 (.st 8 .nil))))))))) rfl ?_;refine GT_st rfl rfl rfl rfl (V_move rfl rfl) ?_;refine GT_st rfl rfl rfl rfl (V_eql rfl rfl rfl) ?_;refine GT_st rfl rfl rfl rfl (V_move rfl rfl) ?_;refine GT_split (d := 41) rfl (fun h6 => ?_) (fun h6 => ?_)
          · refine GT_st_g rfl rfl rfl rfl rfl rfl rfl (V_move rfl rfl) ?_;refine GT_st_g rfl rfl rfl rfl rfl rfl rfl (V_lenMap rfl rfl Tryz.underlying240) ?_;refine GT_st_g rfl rfl rfl rfl rfl rfl rfl (V_move rfl rfl) ?_;refine GT_st_g rfl rfl rfl rfl rfl rfl rfl (V_len rfl Tryz.underlying107 rfl) ?_;refine GT_st_g rfl rfl rfl rfl rfl rfl rfl (V_lss rfl rfl rfl) ?_;refine GT_st rfl rfl rfl rfl (V_pick_t rfl rfl rfl) ?_;refine GT_nil ?_;refine GE_cond rfl (fun h7 => ?_) (fun h7 => ?_)
            · refine GE_slots (L' := []) trivial ?_;refine GE_plain (.st 0 .nil) rfl ?_;refine GT_st rfl rfl rfl rfl (V_assign rfl rfl) ?_;refine GT_nil ?_;refine GE_seq ?_;refine GE_plain (.st 0 (.st 1 .nil)) rfl ?_;refine GT_st rfl rfl rfl rfl (V_move rfl rfl) ?_;refine GT_st rfl rfl rfl rfl (V_assign rfl rfl) ?_;refine GT_nil ?_;refine GE_ret Tryz.func103 rfl (fun w hw => ⟨?_, hw.nil⟩)
              refine congrArg I ?_; first | (rw [hfin]; simp_all; done) | (rw [lErr, if_pos (by omega)])
            · refine GE_skip ?_;refine GE_seq ?_;refine GE_slots (L' := [(3, _)]) ⟨rfl, trivial⟩ ?_;refine GE_plain (.st 0 (.st 1 .nil)) rfl ?_;refine GT_st rfl rfl rfl rfl (V_move rfl rfl) ?_;refine GT_st rfl rfl rfl rfl (V_assign rfl rfl) ?_;refine GT_nil ?_;refine GE_ret Tryz.func103 rfl (fun w hw => ⟨?_, hw.nil⟩)
              refine congrArg I ?_; first | (rw [hfin]; simp_all; done) | (rw [lErr, if_pos (by omega)])
          · refine GT_skip rfl rfl rfl rfl rfl (by decide) rfl rfl ?_;refine GT_skip rfl rfl rfl rfl rfl (by decide) rfl rfl ?_;refine GT_skip rfl rfl rfl rfl rfl (by decide) rfl rfl ?_;refine GT_skip rfl rfl rfl rfl rfl (by decide) rfl rfl ?_;refine GT_skip rfl rfl rfl rfl rfl (by decide) rfl rfl ?_;refine GT_st rfl rfl rfl rfl (V_pick_f rfl rfl rfl) ?_;refine GT_nil ?_;refine GE_cond_f rfl ?_;refine GE_skip ?_;refine GE_seq ?_;refine GE_slots (L' := [(3, _)]) ⟨rfl, trivial⟩ ?_;refine GE_plain (.st 0 (.st 1 .nil)) rfl ?_;refine GT_st rfl rfl rfl rfl (V_move rfl rfl) ?_;refine GT_st rfl rfl rfl rfl (V_assign rfl rfl) ?_;refine GT_nil ?_;refine GE_ret Tryz.func103 rfl (fun w hw => ⟨?_, hw.nil⟩)
            refine congrArg I ?_; first | (rw [hfin]; simp_all; done) | (rw [lErr, if_pos (by omega)])
      · exact ⟨Nat.zero_le _, fun i hi => absurd hi (Nat.not_lt_zero _), .inl ⟨rfl, fun i hi => absurd hi (Nat.not_lt_zero _)⟩, rfl, fun e he => by cases he⟩
end
end Go.Proofs.YtpbflnfcgcldkaaGreatDoor.Take
/- The groove of the example: cutters, points, Cut, walked. -/
namespace Go.Proofs.YtpbflnfcgcldkaaGreatDoor.Side
open Go.Sx Go.Proofs Go.RowKit
def eP2 (p : Int × Int) : List Value := [I p.1, I p.2]
theorem eP2_len (p : Int × Int) : (eP2 p).length = 2 := rfl
theorem eP2_one : ∀ x, ∀ u ∈ eP2 x, u.oneCell' = true := by intro x u hu; simp only [eP2, List.mem_cons, List.not_mem_nil, or_false] at hu; rcases hu with rfl | rfl <;> rfl
abbrev cutV : Value := .agg #[I 400, I 2000, I 200, I 2000, I 1000, I 1000, I 100]
abbrev cutC : List Value := [I 400, I 2000, I 200, I 2000, I 1000, I 1000, I 100]
def ptE : List (Int × Int) := [(-400, 400), (-200, 600), (-400, 400)]
def ckE : List (Int × Int × Int) := [(400, 1, 4096), (2000, 0, 100000), (200, 0, 2000), (2000, 0, 1048576), (1000, 0, 10000), (1000, 0, 1048576), (100, 0, 1024)]
section
variable {w : World} {A : Option Addr} {c k : Nat}
theorem C_gbetween {x lo hi : Int} (h : lo ≤ x ∧ x ≤ hi) : Con0 Tryz.prog 286 [I x, I lo, I hi] w (.bool true) := by
  refine Ret_of (vs := [_, _, _]) hm none' Tryz.func286 rfl Tryz.ntmps286 rfl ?_
  dsimp only [slotsOf]
  refine GE_seq ?_;refine GE_plain (.st 0 .nil) rfl ?_;refine GT_st rfl rfl rfl rfl (V_assign rfl rfl) ?_;refine GT_nil ?_;refine GE_seq ?_;refine GE_plain (.st 0 (.st 1 (.st 2 (.st 3 (.st 4 (.st 5 (.st 6 (.st 7 (.st 8 .nil))))))))) rfl ?_;refine GT_st rfl rfl rfl rfl (V_move rfl rfl) ?_;refine GT_st rfl rfl rfl rfl (V_move rfl rfl) ?_;refine GT_st rfl rfl rfl rfl (V_isT (V_geq rfl rfl rfl) h.1) ?_;refine GT_st rfl rfl rfl rfl (V_move rfl rfl) ?_;refine GT_st_g rfl rfl rfl rfl rfl rfl rfl (V_move rfl rfl) ?_;refine GT_st_g rfl rfl rfl rfl rfl rfl rfl (V_move rfl rfl) ?_;refine GT_st_g rfl rfl rfl rfl rfl rfl rfl (V_isT (V_leq rfl rfl rfl) h.2) ?_;refine GT_st rfl rfl rfl rfl (V_pick_t rfl rfl rfl) ?_;refine GT_st rfl rfl rfl rfl (V_assign rfl rfl) ?_;refine GT_nil ?_;refine GE_ret Tryz.func286 rfl (fun w hw => ⟨?_, hw.nil⟩)
  rfl
theorem ckE_ok (hk : k < 7) : (ckE.getD k (0, 0, 0)).2.1 ≤ (ckE.getD k (0, 0, 0)).1 ∧ (ckE.getD k (0, 0, 0)).1 ≤ (ckE.getD k (0, 0, 0)).2.2 := by
  rcases (show k = 0 ∨ k = 1 ∨ k = 2 ∨ k = 3 ∨ k = 4 ∨ k = 5 ∨ k = 6 by omega) with rfl | rfl | rfl | rfl | rfl | rfl | rfl <;> decide
abbrev ckC : List Value := [I 400, I 1, I 4096, I 2000, I 0, I 100000, I 200, I 0, I 2000, I 2000, I 0, I 1048576, I 1000, I 0, I 10000, I 1000, I 0, I 1048576, I 100, I 0, I 1024]
theorem ckC_at (hk : k < 7) : (ckC.drop (k * 3)).take 3 = [I (ckE.getD k (0, 0, 0)).1, I (ckE.getD k (0, 0, 0)).2.1, I (ckE.getD k (0, 0, 0)).2.2] := by
  rcases (show k = 0 ∨ k = 1 ∨ k = 2 ∨ k = 3 ∨ k = 4 ∨ k = 5 ∨ k = 6 by omega) with rfl | rfl | rfl | rfl | rfl | rfl | rfl <;> rfl
set_option maxRecDepth 20000 in
theorem C_gCheck : Con0 Tryz.prog 276 [cutV] w (I 0) := by
  refine Ret_of (vs := [_]) hm none' Tryz.func276 rfl Tryz.ntmps276 rfl ?_
  dsimp only [slotsOf]
  refine GE_seq ?_;refine GE_plain (.ld 0 [] (.st 1 .nil)) rfl ?_;refine GT_box (z := [_, _, _, _, _, _, _]) rfl rfl rfl rfl rfl rfl rfl (fun _ => GR_nil) (fun b1 => ?_)
  refine GT_st rfl rfl rfl rfl (V_assign rfl rfl) ?_;refine GT_nil ?_;refine GE_seq ?_;refine GE_seq ?_;refine GE_plain (.st 0 (.st 1 (.st 2 (.st 3 (.st 4 (.st 5 (.st 6 (.st 7 (.st 8 (.st 9 (.st 10 (.st 11 (.st 12 (.st 13 (.st 14 (.st 15 (.st 16 (.st 17 (.st 18 (.st 19 (.st 20 (.st 21 (.st 22 (.st 23 (.st 24 .nil))))))))))))))))))))))))) rfl ?_;refine GT_st rfl rfl rfl rfl (V_field rfl rfl fo_418_0) ?_;refine GT_st rfl rfl rfl rfl (V_load rfl rfl ag_2 (CellAt.item rfl)) ?_;refine GT_st rfl rfl rfl rfl (V_build (vs := [_, _, _]) rfl rfl zc_349 pl_349 sa_349 rfl) ?_;refine GT_st rfl rfl rfl rfl (V_field rfl rfl fo_418_1) ?_;refine GT_st rfl rfl rfl rfl (V_load rfl rfl ag_2 (CellAt.item rfl)) ?_;refine GT_st rfl rfl rfl rfl (V_build (vs := [_, _, _]) rfl rfl zc_349 pl_349 sa_349 rfl) ?_;refine GT_st rfl rfl rfl rfl (V_field rfl rfl fo_418_2) ?_;refine GT_st rfl rfl rfl rfl (V_load rfl rfl ag_2 (CellAt.item rfl)) ?_;refine GT_st rfl rfl rfl rfl (V_field rfl rfl fo_418_3) ?_;refine GT_st rfl rfl rfl rfl (V_load rfl rfl ag_2 (CellAt.item rfl)) ?_;refine GT_st rfl rfl rfl rfl (V_build (vs := [_, _, _]) rfl rfl zc_349 pl_349 sa_349 rfl) ?_;refine GT_st rfl rfl rfl rfl (V_field rfl rfl fo_418_3) ?_;refine GT_st rfl rfl rfl rfl (V_load rfl rfl ag_2 (CellAt.item rfl)) ?_;refine GT_st rfl rfl rfl rfl (V_build (vs := [_, _, _]) rfl rfl zc_349 pl_349 sa_349 rfl) ?_;refine GT_st rfl rfl rfl rfl (V_field rfl rfl fo_418_4) ?_;refine GT_st rfl rfl rfl rfl (V_load rfl rfl ag_2 (CellAt.item rfl)) ?_;refine GT_st rfl rfl rfl rfl (V_build (vs := [_, _, _]) rfl rfl zc_349 pl_349 sa_349 rfl) ?_;refine GT_st rfl rfl rfl rfl (V_field rfl rfl fo_418_5) ?_;refine GT_st rfl rfl rfl rfl (V_load rfl rfl ag_2 (CellAt.item rfl)) ?_
  refine GT_st rfl rfl rfl rfl (V_build (vs := [_, _, _]) rfl rfl zc_349 pl_349 sa_349 rfl) ?_;refine GT_st rfl rfl rfl rfl (V_field rfl rfl fo_418_6) ?_;refine GT_st rfl rfl rfl rfl (V_load rfl rfl ag_2 (CellAt.item rfl)) ?_;refine GT_st rfl rfl rfl rfl (V_build (vs := [_, _, _]) rfl rfl zc_349 pl_349 sa_349 rfl) ?_;refine GT_st rfl rfl rfl rfl (V_build (vs := [_, _, _, _, _, _, _, _, _, _, _, _, _, _, _, _, _, _, _, _, _]) rfl rfl zc_507 pl_507 sa_507 rfl) ?_;refine GT_st rfl rfl rfl rfl (V_move rfl rfl) ?_;refine GT_nil ?_;refine GE_block ?_;refine GE_to (GE_loop (ι := Nat) (fun k => 7 - k) (fun k => [(28, .agg ckC.toArray), (29, I k)]) (fun k => []) (fun k => k ≤ 7) ?_ 0 ?_) ⟨rfl, rfl, trivial⟩ HS.nil
  · intro k hk ih
    refine GE_seq ?_;refine GE_plain (.st 0 .nil) rfl ?_;refine GT_st rfl rfl rfl rfl (V_lss rfl rfl rfl) ?_;refine GT_nil ?_;refine GE_seq ?_;refine GE_cond rfl (fun q1 => ?_) (fun q1 => ?_)
    · have hk7 : k < 7 := (by omega); have hck := ckE_ok hk7
      refine GE_skip ?_;refine GE_seq ?_;refine GE_block ?_;refine GE_seq ?_;refine GE_plain (.st 0 (.ld 1 [] (.ld 2 [] .nil))) rfl ?_;refine GT_st rfl rfl rfl rfl (V_indexAggN (vs := [_, _, _]) rfl rfl rfl Tryz.underlying507 ag_349 sz_349 rfl (by omega) (ckC_at hk7)) ?_;refine GT_alloc rfl rfl rfl rfl rfl zc_349 (fun _ => GR_nil) (fun b4 => ?_)
      refine GT_store (vs := [_, _, _]) (l' := [_, _, _]) rfl rfl rfl rfl rfl rfl rfl sz_349 rfl rfl (Nat.le_of_ble_eq_true rfl) rfl (GR_nil) ?_;refine GT_nil ?_;refine GE_seq ?_;refine GE_plain (.st 0 (.st 1 (.st 2 (.st 3 (.st 4 (.st 5 (.ld 6 [] (.st 7 .nil)))))))) rfl ?_;refine GT_st rfl rfl rfl rfl (V_indexArr (kk := 0) rfl rfl rfl Tryz.underlying349 sz_2 rfl (by omega)) ?_;refine GT_st rfl rfl rfl rfl (V_load rfl rfl ag_2 (CellAt.item rfl)) ?_;refine GT_st rfl rfl rfl rfl (V_indexArr (kk := 1) rfl rfl rfl Tryz.underlying349 sz_2 rfl (by omega)) ?_;refine GT_st rfl rfl rfl rfl (V_load rfl rfl ag_2 (CellAt.item rfl)) ?_;refine GT_st rfl rfl rfl rfl (V_indexArr (kk := 2) rfl rfl rfl Tryz.underlying349 sz_2 rfl (by omega)) ?_;refine GT_st rfl rfl rfl rfl (V_load rfl rfl ag_2 (CellAt.item rfl)) ?_;refine GT_call0 rfl rfl rfl rfl rfl rfl rfl rfl rn_286 (fun w hw => C_gbetween hck) (GR_nil) ?_;refine GT_st rfl rfl rfl rfl (V_notB rfl rfl) ?_;refine GT_nil ?_;refine GE_cond_f rfl ?_;refine GE_skip ?_;refine GE_inBlock ?_;refine GE_slots (L' := [(28, _), (29, _)]) ⟨rfl, rfl, trivial⟩ ?_;refine GE_plain (.st 0 (.ld 1 [] .nil)) rfl ?_;refine GT_st rfl rfl rfl rfl (V_add rfl rfl rfl (wrap_i64 (by omega))) ?_;refine GT_ldv rfl rfl rfl rfl rfl (V_move rfl rfl) (GR_nil) ?_;refine GT_nil ?_
      exact GE_to (ih (k + 1) (by omega) (by omega)) ⟨rfl, rfl, trivial⟩ HS.nil
    · refine GE_exit rfl ?_;refine GE_seq ?_;refine GE_plain (.st 0 .nil) rfl ?_;refine GT_st rfl rfl rfl rfl (V_assign rfl rfl) ?_;refine GT_nil ?_;refine GE_ret Tryz.func276 rfl (fun w hw => ⟨?_, hw.nil⟩)
      rfl
  · exact Nat.zero_le _
theorem C_edged {p : Int × Int} (h1 : -4194304 ≤ p.1 ∧ p.1 ≤ 4194304) (h2 : -4194304 ≤ p.2 ∧ p.2 ≤ 4194304) : Con0 Tryz.prog 244 [.agg #[I p.1, I p.2]] w (.bool true) := by
  refine Ret_of (vs := [_]) hm none' Tryz.func244 rfl Tryz.ntmps244 rfl ?_
  dsimp only [slotsOf]
  refine GE_seq ?_;refine GE_plain (.ld 0 [] (.st 1 .nil)) rfl ?_;refine GT_box (z := [_, _]) rfl rfl rfl rfl rfl rfl rfl (fun _ => GR_nil) (fun b1 => ?_)
  refine GT_st rfl rfl rfl rfl (V_assign rfl rfl) ?_;refine GT_nil ?_;refine GE_seq ?_;refine GE_plain (.st 0 (.st 1 (.ld 2 [] (.st 3 (.st 4 (.st 5 (.ld 6 [] (.st 7 (.st 8 .nil))))))))) rfl ?_;refine GT_st rfl rfl rfl rfl (V_field rfl rfl fo_261_0) ?_;refine GT_st rfl rfl rfl rfl (V_load rfl rfl ag_2 (CellAt.item rfl)) ?_;refine GT_call0 rfl rfl rfl rfl rfl rfl rfl rfl rn_286 (fun w hw => C_gbetween h1) (GR_nil) ?_;refine GT_st rfl rfl rfl rfl (V_move rfl rfl) ?_;refine GT_st_g rfl rfl rfl rfl rfl rfl rfl (V_field rfl rfl fo_261_1) ?_;refine GT_st_g rfl rfl rfl rfl rfl rfl rfl (V_load rfl rfl ag_2 (CellAt.item rfl)) ?_;refine GT_call0_g rfl rfl rfl rfl rfl rfl rfl rfl rfl rfl rfl rn_286 (fun w hw => C_gbetween h2) (GR_nil) ?_;refine GT_st rfl rfl rfl rfl (V_pick_t rfl rfl rfl) ?_;refine GT_st rfl rfl rfl rfl (V_assign rfl rfl) ?_;refine GT_nil ?_;refine GE_ret Tryz.func244 rfl (fun w hw => ⟨?_, hw.nil⟩)
  rfl
theorem ptE_bd (hk : k < 3) : (-4194304 ≤ (ptE.getD k default).1 ∧ (ptE.getD k default).1 ≤ 4194304) ∧ (-4194304 ≤ (ptE.getD k default).2 ∧ (ptE.getD k default).2 ≤ 4194304) := by
  rcases (show k = 0 ∨ k = 1 ∨ k = 2 by omega) with rfl | rfl | rfl <;> decide
theorem C_gCheckPoints (h : RdL w 2 eP2 A ptE) : Con0 Tryz.prog 191 [.slice A 3 c] w (I 0) := by
  refine Ret_of (vs := [_]) hm none' Tryz.func191 rfl Tryz.ntmps191 rfl ?_
  dsimp only [slotsOf]
  refine GE_seq ?_;refine GE_plain (.st 0 .nil) rfl ?_;refine GT_st rfl rfl rfl rfl (V_assign rfl rfl) ?_;refine GT_nil ?_;refine GE_seq ?_;refine GE_seq ?_;refine GE_plain (.st 0 (.st 1 (.st 2 .nil))) rfl ?_;refine GT_st rfl rfl rfl rfl (V_move rfl rfl) ?_;refine GT_st rfl rfl rfl rfl (V_len rfl Tryz.underlying255 rfl) ?_;refine GT_st rfl rfl rfl rfl (V_isF (V_gtr rfl rfl rfl) (by decide)) ?_;refine GT_nil ?_;refine GE_cond_f rfl ?_;refine GE_skip ?_;refine GE_seq ?_;refine GE_seq ?_;refine GE_slots (L' := [(0, _)]) ⟨rfl, trivial⟩ ?_;refine GE_plain (.st 0 (.st 1 (.st 2 .nil))) rfl ?_;refine GT_st rfl rfl rfl rfl (V_move rfl rfl) ?_;refine GT_st rfl rfl rfl rfl (V_len rfl Tryz.underlying255 rfl) ?_;refine GT_st rfl rfl rfl rfl (V_move rfl rfl) ?_;refine GT_nil ?_;refine GE_block ?_;refine GE_to (GE_loop (ι := Nat) (fun k => 3 - k) (fun k => [(8, .slice A 3 c), (9, I 3), (10, I k)]) (fun k => []) (fun k => k ≤ 3) ?_ 0 ?_) ⟨rfl, rfl, rfl, trivial⟩ HS.nil
  · intro k hk ih
    refine GE_seq ?_;refine GE_plain (.st 0 .nil) rfl ?_;refine GT_st rfl rfl rfl rfl (V_lss rfl rfl rfl) ?_;refine GT_nil ?_;refine GE_seq ?_;refine GE_cond rfl (fun q1 => ?_) (fun q1 => ?_)
    · have hk3 : k < 3 := (by omega); have hkl : k < ptE.length := hk3; have hpb := ptE_bd hk3
      refine GE_skip ?_;refine GE_seq ?_;refine GE_block ?_;refine GE_seq ?_;refine GE_plain (.st 0 (.st 1 (.ld 2 [] (.ld 3 [] .nil)))) rfl ?_;refine GT_st rfl rfl rfl rfl (V_index rfl rfl rfl Tryz.underlying255 sz_261 (k := k) rfl hk3 (h.isSome hkl)) ?_;refine GT_st rfl rfl rfl rfl (V_loadN (vs := [_, _]) rfl rfl ag_261 sz_261 rfl (show CellsAt _ _ _ (eP2 (ptE.getD k default)) from h.ats noM hkl)) ?_;refine GT_alloc rfl rfl rfl rfl rfl zc_261 (fun _ => GR_nil) (fun b4 => ?_)
      refine GT_store (vs := [_, _]) (l' := [_, _]) rfl rfl rfl rfl rfl rfl rfl sz_261 rfl rfl (Nat.le_of_ble_eq_true rfl) rfl (GR_nil) ?_;refine GT_nil ?_;refine GE_seq ?_;refine GE_plain (.st 0 (.ld 1 [] (.st 2 .nil))) rfl ?_;refine GT_st rfl rfl rfl rfl (V_loadN (vs := [_, _]) rfl rfl ag_261 sz_261 rfl (CellsAt.item rfl)) ?_;refine GT_call0 rfl rfl rfl rfl rfl rfl rfl rfl rn_244 (fun w hw => C_edged (p := ptE.getD k default) hpb.1 hpb.2) (GR_nil) ?_;refine GT_st rfl rfl rfl rfl (V_notB rfl rfl) ?_;refine GT_nil ?_;refine GE_cond_f rfl ?_;refine GE_skip ?_;refine GE_inBlock ?_;refine GE_slots (L' := [(8, _), (9, _), (10, _)]) ⟨rfl, rfl, rfl, trivial⟩ ?_;refine GE_plain (.st 0 (.ld 1 [] .nil)) rfl ?_;refine GT_st rfl rfl rfl rfl (V_add rfl rfl rfl (wrap_i64 (by omega))) ?_;refine GT_ldv rfl rfl rfl rfl rfl (V_move rfl rfl) (GR_nil) ?_;refine GT_nil ?_
      exact GE_to (ih (k + 1) (by omega) (by omega)) ⟨rfl, rfl, rfl, trivial⟩ HS.nil
    · refine GE_exit rfl ?_;refine GE_seq ?_;refine GE_slots (L' := []) trivial ?_;refine GE_plain (.st 0 .nil) rfl ?_;refine GT_st rfl rfl rfl rfl (V_assign rfl rfl) ?_;refine GT_nil ?_;refine GE_ret Tryz.func191 rfl (fun w hw => ⟨?_, hw.nil⟩)
      rfl
  · exact Nat.zero_le _
theorem C_point {s : Int × Int} (h : (-32767 ≤ s.1 ∧ s.1 ≤ 32767) ∧ -32767 ≤ s.2 ∧ s.2 ≤ 32767) : Con0 Tryz.prog 277 [cutV, .agg #[I s.1, I s.2]] w (.agg #[I ((s.2 * 2000).tdiv 1000 - 400), I ((s.1 * 2000).tdiv 1000 + 400)]) := by
  have h1 : (s.2 * 2000).tdiv 1000 = s.2 * 2 := by rw [show s.2 * 2000 = s.2 * 2 * 1000 by omega]; exact Int.mul_tdiv_cancel _ (by decide)
  have h2 : (s.1 * 2000).tdiv 1000 = s.1 * 2 := by rw [show s.1 * 2000 = s.1 * 2 * 1000 by omega]; exact Int.mul_tdiv_cancel _ (by decide)
  refine Ret_of (vs := [_, _]) hm none' Tryz.func277 rfl Tryz.ntmps277 rfl ?_
  dsimp only [slotsOf]
  refine GE_seq ?_;refine GE_plain (.ld 0 [] (.ld 1 [] (.ld 2 [] .nil))) rfl ?_;refine GT_box (z := [_, _, _, _, _, _, _]) rfl rfl rfl rfl rfl rfl rfl (fun _ => GR_nil) (fun b2 => ?_)
  refine GT_box (z := [_, _]) rfl rfl rfl rfl rfl rfl rfl (fun _ => GR_nil) (fun b3 => ?_)
  refine GT_alloc rfl rfl rfl rfl rfl zc_261 (fun _ => GR_nil) (fun b4 => ?_)
  refine GT_nil ?_;refine GE_seq ?_;refine GE_plain (.st 0 (.st 1 (.st 2 (.st 3 (.st 4 (.st 5 (.st 6 (.st 7 (.st 8 (.st 9 (.st 10 (.st 11 (.st 12 (.st 13 (.st 14 (.st 15 (.st 16 (.st 17 (.st 18 (.ld 19 [] .nil)))))))))))))))))))) rfl ?_;refine GT_st rfl rfl rfl rfl (V_field rfl rfl fo_421_1) ?_;refine GT_st rfl rfl rfl rfl (V_load rfl rfl ag_2 (CellAt.item rfl)) ?_;refine GT_st rfl rfl rfl rfl (V_field rfl rfl fo_418_1) ?_;refine GT_st rfl rfl rfl rfl (V_load rfl rfl ag_2 (CellAt.item rfl)) ?_;refine GT_st rfl rfl rfl rfl (V_mul rfl rfl rfl ((wrap_i64 (by omega)))) ?_;refine GT_st rfl rfl rfl rfl (V_quo rfl rfl rfl (by omega) ((wrap_i64 (by rw [h1]; omega)))) ?_;refine GT_st rfl rfl rfl rfl (V_field rfl rfl fo_418_0) ?_;refine GT_st rfl rfl rfl rfl (V_load rfl rfl ag_2 (CellAt.item rfl)) ?_;refine GT_st rfl rfl rfl rfl (V_sub rfl rfl rfl ((wrap_i64 (by rw [h1]; omega)))) ?_;refine GT_st rfl rfl rfl rfl (V_field rfl rfl fo_421_0) ?_;refine GT_st rfl rfl rfl rfl (V_load rfl rfl ag_2 (CellAt.item rfl)) ?_;refine GT_st rfl rfl rfl rfl (V_field rfl rfl fo_418_1) ?_;refine GT_st rfl rfl rfl rfl (V_load rfl rfl ag_2 (CellAt.item rfl)) ?_;refine GT_st rfl rfl rfl rfl (V_mul rfl rfl rfl ((wrap_i64 (by omega)))) ?_;refine GT_st rfl rfl rfl rfl (V_quo rfl rfl rfl (by omega) ((wrap_i64 (by rw [h2]; omega)))) ?_;refine GT_st rfl rfl rfl rfl (V_field rfl rfl fo_418_0) ?_;refine GT_st rfl rfl rfl rfl (V_load rfl rfl ag_2 (CellAt.item rfl)) ?_;refine GT_st rfl rfl rfl rfl (V_add rfl rfl rfl ((wrap_i64 (by rw [h2]; omega)))) ?_;refine GT_st rfl rfl rfl rfl (V_build (vs := [_, _]) rfl rfl zc_261 pl_261 sa_261 rfl) ?_;refine GT_store (vs := [_, _]) (l' := [_, _]) rfl rfl rfl rfl rfl rfl rfl sz_261 rfl rfl (Nat.le_of_ble_eq_true rfl) rfl (GR_nil) ?_;refine GT_nil ?_
  refine GE_ret Tryz.func277 ⟨_, rfl, fun w m => run_loadVar_agg (vs := [_, _]) ag_261 sz_261 rfl (fun j v hj => CellsAt.item rfl j v hj w m)⟩ (fun w hw => ⟨?_, hw.nil⟩)
  rfl
theorem C_checkPlace {r per : Int} (h1 : 0 ≤ r ∧ r ≤ 4194304) (h2 : 1 ≤ per ∧ per ≤ 65536) : Con0 Tryz.prog 279 [I r, I per] w (I 0) := by
  refine Ret_of (vs := [_, _]) hm none' Tryz.func279 rfl Tryz.ntmps279 rfl ?_
  dsimp only [slotsOf]
  refine GE_seq ?_;refine GE_plain (.st 0 .nil) rfl ?_;refine GT_st rfl rfl rfl rfl (V_assign rfl rfl) ?_;refine GT_nil ?_;refine GE_seq ?_;refine GE_seq ?_;refine GE_plain (.st 0 (.ld 1 [] (.st 2 (.st 3 (.st 4 (.ld 5 [] (.st 6 (.st 7 .nil)))))))) rfl ?_;refine GT_st rfl rfl rfl rfl (V_move rfl rfl) ?_;refine GT_call0 rfl rfl rfl rfl rfl rfl rfl rfl rn_286 (fun w hw => C_gbetween h1) (GR_nil) ?_;refine GT_st rfl rfl rfl rfl (V_notB rfl rfl) ?_;refine GT_st rfl rfl rfl rfl (V_move rfl rfl) ?_;refine GT_st_g rfl rfl rfl rfl rfl rfl rfl (V_move rfl rfl) ?_;refine GT_call0_g rfl rfl rfl rfl rfl rfl rfl rfl rfl rfl rfl rn_286 (fun w hw => C_gbetween h2) (GR_nil) ?_;refine GT_st_g rfl rfl rfl rfl rfl rfl rfl (V_notB rfl rfl) ?_;refine GT_st rfl rfl rfl rfl (V_pick_f rfl rfl rfl) ?_;refine GT_nil ?_;refine GE_cond_f rfl ?_;refine GE_skip ?_;refine GE_seq ?_;refine GE_slots (L' := []) trivial ?_;refine GE_plain (.st 0 .nil) rfl ?_;refine GT_st rfl rfl rfl rfl (V_assign rfl rfl) ?_;refine GT_nil ?_;refine GE_ret Tryz.func279 rfl (fun w hw => ⟨?_, hw.nil⟩)
  rfl
abbrev trkC (A : Option Addr) (c : Nat) (r per : Int) : List Value := [I 400, I 2000, I 200, I 2000, I 1000, I 1000, I 100, .slice A 3 c, I r, I per]
theorem C_newTrack (h : RdL w 2 eP2 A ptE) : Con Tryz.prog 278 [cutV, .slice A 3 c] w (fun _ : Nat => True) (fun b => .tuple #[ptr b 0, I 0]) (fun b => [(b, blk (trkC A c 0 0) 509)]) := by
  refine Ret_of (vs := [_, _]) hm none' Tryz.func278 rfl Tryz.ntmps278 rfl ?_
  dsimp only [slotsOf]
  refine GE_seq ?_;refine GE_plain (.ld 0 [] (.st 1 (.st 2 .nil))) rfl ?_;refine GT_box (z := [_, _, _, _, _, _, _]) rfl rfl rfl rfl rfl rfl rfl (fun _ => GR_nil) (fun b2 => ?_)
  refine GT_st rfl rfl rfl rfl (V_assign rfl rfl) ?_;refine GT_st rfl rfl rfl rfl (V_assign rfl rfl) ?_;refine GT_nil ?_;refine GE_seq ?_;refine GE_seq ?_;refine GE_plain (.st 0 (.ld 1 [] (.st 2 .nil))) rfl ?_;refine GT_st rfl rfl rfl rfl (V_loadN (vs := [_, _, _, _, _, _, _]) rfl rfl ag_418 sz_418 rfl (CellsAt.item rfl)) ?_;refine GT_call0 rfl rfl rfl rfl rfl rfl rfl rfl rn_276 (fun w hw => C_gCheck) (GR_nil) ?_;refine GT_st rfl rfl rfl rfl (V_assign rfl rfl) ?_;refine GT_nil ?_;refine GE_seq ?_;refine GE_slots (L' := [(1, _), (2, _), (6, _)]) ⟨rfl, rfl, rfl, trivial⟩ ?_;refine GE_plain (.st 0 (.st 1 .nil)) rfl ?_;refine GT_st rfl rfl rfl rfl (V_move rfl rfl) ?_;refine GT_st rfl rfl rfl rfl (V_isF (V_neq rfl rfl rfl) (fun q => q rfl)) ?_;refine GT_nil ?_;refine GE_cond_f rfl ?_;refine GE_skip ?_;refine GE_seq ?_;refine GE_seq ?_;refine GE_plain (.st 0 (.ld 1 [] (.st 2 .nil))) rfl ?_;refine GT_st rfl rfl rfl rfl (V_move rfl rfl) ?_;refine GT_call0 rfl rfl rfl rfl rfl rfl rfl rfl rn_191 (fun w hw => C_gCheckPoints (h.sh hw)) (GR_nil) ?_;refine GT_st rfl rfl rfl rfl (V_assign rfl rfl) ?_;refine GT_nil ?_;refine GE_seq ?_;refine GE_slots (L' := [(1, _), (2, _), (7, _)]) ⟨rfl, rfl, rfl, trivial⟩ ?_;refine GE_plain (.st 0 (.st 1 .nil)) rfl ?_;refine GT_st rfl rfl rfl rfl (V_move rfl rfl) ?_;refine GT_st rfl rfl rfl rfl (V_isF (V_neq rfl rfl rfl) (fun q => q rfl)) ?_;refine GT_nil ?_;refine GE_cond_f rfl ?_;refine GE_skip ?_;refine GE_seq ?_;refine GE_plain (.st 0 (.st 1 (.st 2 (.ld 3 [] (.st 4 (.st 5 .nil)))))) rfl ?_;refine GT_st rfl rfl rfl rfl (V_loadN (vs := [_, _, _, _, _, _, _]) rfl rfl ag_418 sz_418 rfl (CellsAt.item rfl)) ?_;refine GT_st rfl rfl rfl rfl (V_move rfl rfl) ?_
  refine GT_st rfl rfl rfl rfl (V_build (vs := [_, _, _, _, _, _, _, _, _, _]) rfl rfl zc_509 pl_509 sa_509 rfl) ?_;refine GT_box (z := [_, _, _, _, _, _, _, _, _, _]) rfl rfl rfl rfl rfl rfl rfl (fun _ => GR_nil) (fun b21 => ?_)
  refine GT_st rfl rfl rfl rfl (V_assign rfl rfl) ?_;refine GT_st rfl rfl rfl rfl (V_assign rfl rfl) ?_;refine GT_nil ?_;refine GE_ret Tryz.func278 ⟨_, _, rfl, rfl, rfl⟩ (fun w hw => ?_)
  exact ⟨_, trivial, rfl, hw.hs (C := cx Tryz.prog hm 0 0 _ none' fun _ _ => True) (HS.cons rfl HS.nil)⟩
end
end Go.Proofs.YtpbflnfcgcldkaaGreatDoor.Side
/- The groove of the example: Cut; widths, steps and bends, walked. -/
namespace Go.Proofs.YtpbflnfcgcldkaaGreatDoor.Side
open Go.Sx Go.Proofs Go.RowKit
def smS : List Take.Sam := [⟨0, 0⟩, ⟨100, 100⟩, ⟨0, 0⟩]
def ptN : Nat → List (Int × Int)
  | 0 => [(0, 0), (0, 0), (0, 0)]
  | 1 => [(-400, 400), (0, 0), (0, 0)]
  | 2 => [(-400, 400), (-200, 600), (0, 0)]
  | _ => ptE
theorem ptN_len (k : Nat) : (ptN k).length = 3 := by
  unfold ptN; split <;> rfl
def ptX (s : Take.Sam) : Int × Int := ((s.r * 2000).tdiv 1000 - 400, (s.l * 2000).tdiv 1000 + 400)
theorem ptN_set {k : Nat} (hk : k < 3) : (ptN k).set k (ptX (smS.getD k default)) = ptN (k + 1) := by
  rcases (show k = 0 ∨ k = 1 ∨ k = 2 by omega) with rfl | rfl | rfl <;> decide
theorem smS_bd {k : Nat} (hk : k < 3) : (-32767 ≤ (smS.getD k default).l ∧ (smS.getD k default).l ≤ 32767) ∧ -32767 ≤ (smS.getD k default).r ∧ (smS.getD k default).r ≤ 32767 := by
  rcases (show k = 0 ∨ k = 1 ∨ k = 2 by omega) with rfl | rfl | rfl <;> decide
section
variable {w : World} {A : Option Addr} {c g q q0 q2 : Nat} {va vb : Value}
set_option maxRecDepth 20000 in
theorem C_Cut (h : RdL w 2 Take.eSam A smS) : Con Tryz.prog 237 [cutV, .slice A 3 c] w (fun y : Nat × Nat × Items => Own 2 261 eP2 ptE (.slice (some ⟨y.1, 0, none⟩) 3 y.2.1) y.2.2) (fun y => .tuple #[.slice (some ⟨y.1, 0, none⟩) 3 y.2.1, I 0]) (fun y => y.2.2) := by
  refine Ret_of (vs := [_, _]) hm none' Tryz.func237 rfl Tryz.ntmps237 rfl ?_
  dsimp only [slotsOf]
  refine GE_seq ?_;refine GE_plain (.ld 0 [] (.st 1 (.st 2 .nil))) rfl ?_;refine GT_box (z := [_, _, _, _, _, _, _]) rfl rfl rfl rfl rfl rfl rfl (fun _ => GR_nil) (fun b2 => ?_)
  refine GT_st rfl rfl rfl rfl (V_assign rfl rfl) ?_;refine GT_st rfl rfl rfl rfl (V_assign rfl rfl) ?_;refine GT_nil ?_;refine GE_seq ?_;refine GE_seq ?_;refine GE_plain (.st 0 (.ld 1 [] (.st 2 .nil))) rfl ?_;refine GT_st rfl rfl rfl rfl (V_loadN (vs := [_, _, _, _, _, _, _]) rfl rfl ag_418 sz_418 rfl (CellsAt.item rfl)) ?_;refine GT_call0 rfl rfl rfl rfl rfl rfl rfl rfl rn_276 (fun w hw => C_gCheck) (GR_nil) ?_;refine GT_st rfl rfl rfl rfl (V_assign rfl rfl) ?_;refine GT_nil ?_;refine GE_seq ?_;refine GE_slots (L' := [(1, _), (2, _), (6, _)]) ⟨rfl, rfl, rfl, trivial⟩ ?_;refine GE_plain (.st 0 (.st 1 .nil)) rfl ?_;refine GT_st rfl rfl rfl rfl (V_move rfl rfl) ?_;refine GT_st rfl rfl rfl rfl (V_isF (V_neq rfl rfl rfl) (fun q => q rfl)) ?_;refine GT_nil ?_;refine GE_cond_f rfl ?_;refine GE_skip ?_;refine GE_seq ?_;refine GE_seq ?_;refine GE_plain (.st 0 (.ld 1 [] (.st 2 .nil))) rfl ?_;refine GT_st rfl rfl rfl rfl (V_move rfl rfl) ?_;refine GT_call0 rfl rfl rfl rfl rfl rfl rfl rfl rn_217 (fun w hw => Take.C_CheckSamples (s := smS) (h.sh hw)) (GR_nil) ?_;refine GT_st rfl rfl rfl rfl (V_assign rfl rfl) ?_;refine GT_nil ?_;refine GE_seq ?_;refine GE_slots (L' := [(1, _), (2, _), (7, _)]) ⟨rfl, rfl, rfl, trivial⟩ ?_;refine GE_plain (.st 0 (.st 1 .nil)) rfl ?_;refine GT_st rfl rfl rfl rfl (V_move rfl rfl) ?_;refine GT_st rfl rfl rfl rfl (V_isF (V_neq rfl rfl rfl) (fun q => q (by decide))) ?_;refine GT_nil ?_;refine GE_cond_f rfl ?_;refine GE_skip ?_;refine GE_seq ?_;refine GE_plain (.st 0 (.st 1 (.ld 2 [] (.st 3 .nil)))) rfl ?_;refine GT_st rfl rfl rfl rfl (V_move rfl rfl) ?_;refine GT_st rfl rfl rfl rfl (V_len rfl Tryz.underlying228 rfl) ?_
  refine GT_makeSlice rfl rfl rfl rfl rfl rfl rfl Tryz.underlying255 zc_261 sz_261 by_261 (nn := 3) ⟨rfl, rfl, rfl⟩ (by decide) (fun _ => GR_nil) (fun b23 => ?_)
  refine GT_st rfl rfl rfl rfl (V_assign rfl rfl) ?_;refine GT_nil ?_;refine GE_seq ?_;refine GE_seq ?_;refine GE_slots (L' := [(1, _), (2, _), (8, _)]) ⟨rfl, rfl, rfl, trivial⟩ ?_;refine GE_plain (.st 0 (.st 1 (.st 2 .nil))) rfl ?_;refine GT_st rfl rfl rfl rfl (V_move rfl rfl) ?_;refine GT_st rfl rfl rfl rfl (V_len rfl Tryz.underlying228 rfl) ?_;refine GT_st rfl rfl rfl rfl (V_move rfl rfl) ?_;refine GT_nil ?_;refine GE_block ?_;refine GE_to (GE_loop (ι := Nat × Items) (fun z => 3 - z.1) (fun z => [(2, ptr b2 0), (8, .slice (some ⟨b23, 0, none⟩) 3 3), (24, .slice A 3 c), (25, I 3), (26, I z.1)]) (fun z => z.2 ++ [(b2, blk cutC 418)]) (fun z => z.1 ≤ 3 ∧ Own 2 261 eP2 (ptN z.1) (.slice (some ⟨b23, 0, none⟩) 3 3) z.2) ?_ (0, [(b23, blk [I 0, I 0, I 0, I 0, I 0, I 0] 261)]) ?_) ⟨rfl, rfl, rfl, rfl, rfl, trivial⟩ (HS.cons rfl (HS.cons rfl HS.nil))
  · rintro ⟨k, J⟩ ⟨hk, hO⟩ ih; dsimp only at hk hO ih ⊢
    refine GE_seq ?_;refine GE_plain (.st 0 .nil) rfl ?_;refine GT_st rfl rfl rfl rfl (V_lss rfl rfl rfl) ?_;refine GT_nil ?_;refine GE_seq ?_;refine GE_cond rfl (fun q1 => ?_) (fun q1 => ?_)
    · have hk3 : k < 3 := (by omega); have hkl : k < smS.length := hk3; have hsb := smS_bd hk3
      refine GE_skip ?_;refine GE_seq ?_;refine GE_block ?_;refine GE_seq ?_;refine GE_plain (.st 0 (.st 1 (.st 2 (.ld 3 [] (.st 4 (.ld 5 [] .nil)))))) rfl ?_;refine GT_st rfl rfl rfl rfl (V_move rfl rfl) ?_;refine GT_st rfl rfl rfl rfl (V_index rfl rfl rfl Tryz.underlying228 sz_421 (k := k) rfl hk3 (h.isSome hkl)) ?_;refine GT_st rfl rfl rfl rfl (V_loadN (vs := [_, _]) rfl rfl ag_421 sz_421 rfl (show CellsAt _ _ _ (Take.eSam (smS.getD k default)) from h.ats noM hkl)) ?_;refine GT_alloc rfl rfl rfl rfl rfl zc_421 (fun _ => GR_nil) (fun b10 => ?_)
      refine GT_st rfl rfl rfl rfl (V_assign rfl rfl) ?_;refine GT_store (vs := [_, _]) (l' := [_, _]) rfl rfl rfl rfl rfl rfl rfl sz_421 rfl rfl (Nat.le_of_ble_eq_true rfl) rfl (GR_nil) ?_;refine GT_nil ?_;refine GE_slots (L' := [(2, _), (8, _), (9, _), (10, _), (24, _), (25, _), (26, _)]) ⟨rfl, rfl, rfl, rfl, rfl, rfl, rfl, trivial⟩ ?_;refine GE_plain (.st 0 (.st 1 (.st 2 (.st 3 (.ld 4 [] (.st 5 (.ld 6 [] .nil))))))) rfl ?_;refine GT_st rfl rfl rfl rfl (V_move rfl rfl) ?_;refine GT_st rfl rfl rfl rfl (V_move rfl rfl) ?_;refine GT_st rfl rfl rfl rfl (V_loadN (vs := [_, _, _, _, _, _, _]) rfl rfl ag_418 sz_418 rfl (CellsAt.item rfl)) ?_;refine GT_st rfl rfl rfl rfl (V_loadN (vs := [_, _]) rfl rfl ag_421 sz_421 rfl (CellsAt.item rfl)) ?_;refine GT_call0 rfl rfl rfl rfl rfl rfl rfl rfl rn_277 (fun w hw => C_point (s := ((smS.getD k default).l, (smS.getD k default).r)) hsb) (GR_nil) ?_;refine GT_st rfl rfl rfl rfl (V_index rfl rfl rfl Tryz.underlying255 sz_261 (k := k) rfl hk3 rfl) ?_;refine GT_storeOwn (enc := eP2) (q := k) (xx := ptX (smS.getD k default)) rfl rfl rfl rfl rfl rfl rfl sz_261 hO eP2_len eP2_one (by rw [ptN_len]; exact hk3) (by decide) (fun _ _ => GR_nil) (fun I3 hO3 => ?_)
      refine GT_nil ?_;refine GE_inBlock ?_;refine GE_slots (L' := [(2, _), (8, _), (24, _), (25, _), (26, _)]) ⟨rfl, rfl, rfl, rfl, rfl, trivial⟩ ?_;refine GE_plain (.st 0 (.ld 1 [] .nil)) rfl ?_;refine GT_st rfl rfl rfl rfl (V_add rfl rfl rfl (wrap_i64 (by omega))) ?_;refine GT_ldv rfl rfl rfl rfl rfl (V_move rfl rfl) (GR_nil) ?_;refine GT_nil ?_
      exact GE_to (ih (k + 1, I3) ⟨by dsimp only; omega, by dsimp only; rw [← ptN_set hk3]; exact hO3⟩ (by dsimp only; omega)) ⟨rfl, rfl, rfl, rfl, rfl, trivial⟩ (HS.chunk (HS.cons rfl HS.nil))
    · obtain rfl : k = 3 := (by omega)
      refine GE_exit rfl ?_;refine GE_seq ?_;refine GE_slots (L' := [(8, _)]) ⟨rfl, trivial⟩ ?_;refine GE_plain (.st 0 (.st 1 (.st 2 .nil))) rfl ?_;refine GT_st rfl rfl rfl rfl (V_move rfl rfl) ?_;refine GT_st rfl rfl rfl rfl (V_assign rfl rfl) ?_;refine GT_st rfl rfl rfl rfl (V_assign rfl rfl) ?_;refine GT_nil ?_;refine GE_ret Tryz.func237 ⟨_, _, rfl, rfl, rfl⟩ (fun w hw => ?_)
      exact ⟨(b23, 3, J), hO, rfl, hw.hs (C := cx Tryz.prog hm 0 0 _ none' fun _ _ => True) HS.last⟩
  · exact ⟨Nat.zero_le _, .inr ⟨b23, 3, [], rfl, rfl, rfl, (by show (ptN 0).length ≤ 3; decide), by unfold maxLen; decide⟩⟩
structure PtAt (w : World) (g q : Nat) (a b : Int) : Prop where
  h0 : w.cell? ⟨g, q, none⟩ = some (I a)
  h1 : w.cell? ⟨g, q + 1, none⟩ = some (I b)
theorem PtAt.sh {w w' : World} {g q : Nat} {a b : Int} {H : Items} (h : PtAt w g q a b) (m : SH w none' H w') : PtAt w' g q a b := by
  exact ⟨m.cellOld h.h0 (fun q => q), m.cellOld h.h1 (fun q => q)⟩
def amt2 (n : Int) : Int := max n (-n)
variable {a b a0 b0 a2 b2 : Int}
theorem C_nwidth (h : PtAt w g q a b) (hb : (-4194304 ≤ a ∧ a ≤ 4194304) ∧ -4194304 ≤ b ∧ b ≤ 4194304) : Con0 Tryz.prog 349 [.agg #[vb, ptr g q, va]] w (I (b - a)) := by
  refine Ret_of (vs := [_]) hm none' Tryz.func349 rfl Tryz.ntmps349 rfl ?_
  dsimp only [slotsOf]
  refine GE_seq ?_;refine GE_plain (.ld 0 [] (.st 1 .nil)) rfl ?_;refine GT_box (z := [_, _, _]) rfl rfl rfl rfl rfl rfl rfl (fun _ => GR_nil) (fun b1 => ?_)
  refine GT_st rfl rfl rfl rfl (V_assign rfl rfl) ?_;refine GT_nil ?_;refine GE_seq ?_;refine GE_drawn (.st 0 (.st 1 (.st 2 (.st 3 (.st 4 (.st 5 (.st 6 (.st 7 (.st 8 (.st 9 (.st 10 (.st 11 .nil)))))))))))) [] (by decide +kernel) ?_;refine GT_st rfl rfl rfl rfl (V_field rfl rfl fo_516_1) ?_;refine GT_st rfl rfl rfl rfl (V_load rfl rfl ag_514 (CellAt.item rfl)) ?_;refine GT_st rfl rfl rfl rfl (V_nilCheck rfl rfl) ?_;refine GT_st rfl rfl rfl rfl (V_field rfl rfl fo_261_1) ?_;refine GT_st rfl rfl rfl rfl (V_load rfl rfl ag_2 (CellAt.old h.h1 (noM _))) ?_;refine GT_st rfl rfl rfl rfl (V_field rfl rfl fo_516_1) ?_;refine GT_st rfl rfl rfl rfl (V_load rfl rfl ag_514 (CellAt.item rfl)) ?_;refine GT_st rfl rfl rfl rfl (V_nilCheck rfl rfl) ?_;refine GT_st rfl rfl rfl rfl (V_field rfl rfl fo_261_0) ?_;refine GT_st rfl rfl rfl rfl (V_load rfl rfl ag_2 (CellAt.old h.h0 (noM _))) ?_;refine GT_st rfl rfl rfl rfl (V_sub rfl rfl rfl (wrap_i64 (by omega))) ?_;refine GT_st rfl rfl rfl rfl (V_assign rfl rfl) ?_;refine GT_nil ?_;refine GE_ret Tryz.func349 rfl (fun w hw => ⟨?_, hw.nil⟩)
  rfl
theorem C_gamount {n : Int} (h : -100000000 ≤ n ∧ n ≤ 100000000) : Con0 Tryz.prog 368 [I n] w (I (amt2 n)) := by
  refine Ret_of (vs := [_]) hm none' Tryz.func368 rfl Tryz.ntmps368 rfl ?_
  dsimp only [slotsOf]
  refine GE_seq ?_;refine GE_plain (.st 0 .nil) rfl ?_;refine GT_st rfl rfl rfl rfl (V_assign rfl rfl) ?_;refine GT_nil ?_;refine GE_seq ?_;refine GE_plain (.st 0 (.st 1 (.st 2 (.st 3 (.st 4 .nil))))) rfl ?_;refine GT_st rfl rfl rfl rfl (V_move rfl rfl) ?_;refine GT_st rfl rfl rfl rfl (V_move rfl rfl) ?_;refine GT_st rfl rfl rfl rfl (V_neg rfl rfl ((wrap_i64 (by omega)).trans (show _ = -n by omega))) ?_;refine GT_st rfl rfl rfl rfl (V_max rfl rfl rfl) ?_;refine GT_st rfl rfl rfl rfl (V_assign rfl rfl) ?_;refine GT_nil ?_;refine GE_ret Tryz.func368 rfl (fun w hw => ⟨?_, hw.nil⟩)
  rfl
theorem C_gmost {x y : Int} (h : RdL w 1 eN A [x, y]) : Con0 Tryz.prog 367 [.slice A 2 2] w (I (max x y)) := by
  have z0 : 0 < ([x, y] : List Int).length := (show 0 < 2 by decide)
  have z1 : 1 < ([x, y] : List Int).length := (show 1 < 2 by decide)
  refine Ret_of (vs := [_]) hm none' Tryz.func367 rfl Tryz.ntmps367 rfl ?_
  dsimp only [slotsOf]
  refine GE_seq ?_;refine GE_plain (.st 0 .nil) rfl ?_;refine GT_st rfl rfl rfl rfl (V_assign rfl rfl) ?_;refine GT_nil ?_;refine GE_seq ?_;refine GE_plain (.st 0 (.st 1 (.st 2 (.st 3 .nil)))) rfl ?_;refine GT_st rfl rfl rfl rfl (V_move rfl rfl) ?_;refine GT_st rfl rfl rfl rfl (V_index (k := 0) rfl rfl rfl Tryz.underlying43 sz_2 rfl (by decide) (h.isSome (k := 0) z0)) ?_;refine GT_st rfl rfl rfl rfl (V_load rfl rfl ag_2 (show CellAt _ _ _ (I x) from h.at0 (k := 0) noM z0 rfl)) ?_;refine GT_st rfl rfl rfl rfl (V_assign rfl rfl) ?_;refine GT_nil ?_;refine GE_seq ?_;refine GE_seq ?_;refine GE_slots (L' := [(0, _), (3, _)]) ⟨rfl, rfl, trivial⟩ ?_;refine GE_plain (.st 0 (.st 1 (.st 2 (.st 3 .nil)))) rfl ?_;refine GT_st rfl rfl rfl rfl (V_move rfl rfl) ?_;refine GT_st rfl rfl rfl rfl (V_sliceFrom rfl rfl rfl Tryz.underlying43 sz_2 (show 1 ≤ 2 by decide)) ?_;refine GT_st rfl rfl rfl rfl (V_len rfl Tryz.underlying43 rfl) ?_;refine GT_st rfl rfl rfl rfl (V_move rfl rfl) ?_;refine GT_nil ?_;refine GE_block ?_;refine GE_to (GE_loop (ι := Nat) (fun k => 1 - k) (fun k => [(3, I (if k = 0 then x else max x y)), (10, .slice (slA 2 1 1 A) 1 1), (11, I 1), (12, I k)]) (fun k => []) (fun k => k ≤ 1) ?_ 0 ?_) ⟨rfl, rfl, rfl, rfl, trivial⟩ HS.nil
  · intro k hk ih
    refine GE_seq ?_;refine GE_plain (.st 0 .nil) rfl ?_;refine GT_st rfl rfl rfl rfl (V_lss rfl rfl rfl) ?_;refine GT_nil ?_;refine GE_seq ?_;refine GE_cond rfl (fun q1 => ?_) (fun q1 => ?_)
    · obtain rfl : k = 0 := (by omega)
      refine GE_skip ?_;refine GE_seq ?_;refine GE_block ?_;refine GE_seq ?_;refine GE_plain (.st 0 (.st 1 (.st 2 .nil))) rfl ?_;refine GT_st rfl rfl rfl rfl (V_index rfl rfl rfl Tryz.underlying43 sz_2 (k := 0) rfl (by decide) ((h.drop 1 (c := 2) (Nat.le_refl _)).isSome (k := 0) (by show 0 < 1; decide))) ?_;refine GT_st rfl rfl rfl rfl (V_load rfl rfl ag_2 (show CellAt _ _ _ (I y) from (h.drop 1 (c := 2) (Nat.le_refl _)).at0 (k := 0) noM (by show 0 < 1; decide) rfl)) ?_;refine GT_st rfl rfl rfl rfl (V_assign rfl rfl) ?_;refine GT_nil ?_;refine GE_plain (.st 0 (.st 1 (.st 2 (.ld 3 [] .nil)))) rfl ?_;refine GT_st rfl rfl rfl rfl (V_move rfl rfl) ?_;refine GT_st rfl rfl rfl rfl (V_move rfl rfl) ?_;refine GT_st rfl rfl rfl rfl (V_max rfl rfl rfl) ?_;refine GT_ldv rfl rfl rfl rfl rfl (V_assign rfl rfl) (GR_nil) ?_;refine GT_nil ?_;refine GE_inBlock ?_;refine GE_slots (L' := [(3, _), (10, _), (11, _), (12, _)]) ⟨rfl, rfl, rfl, rfl, trivial⟩ ?_;refine GE_plain (.st 0 (.ld 1 [] .nil)) rfl ?_;refine GT_st rfl rfl rfl rfl (V_add rfl rfl rfl (wrap_i64 (by omega))) ?_;refine GT_ldv rfl rfl rfl rfl rfl (V_move rfl rfl) (GR_nil) ?_;refine GT_nil ?_
      exact GE_to (ih 1 (Nat.le_refl _) (show 1 - 1 < 1 - 0 by decide)) ⟨rfl, rfl, rfl, rfl, trivial⟩ HS.nil
    · obtain rfl : k = 1 := (by omega)
      refine GE_exit rfl ?_;refine GE_seq ?_;refine GE_slots (L' := [(3, _)]) ⟨rfl, trivial⟩ ?_;refine GE_plain (.st 0 (.st 1 .nil)) rfl ?_;refine GT_st rfl rfl rfl rfl (V_move rfl rfl) ?_;refine GT_st rfl rfl rfl rfl (V_assign rfl rfl) ?_;refine GT_nil ?_;refine GE_ret Tryz.func367 rfl (fun w hw => ⟨?_, hw.nil⟩)
      rfl
  · exact Nat.zero_le _
end
end Go.Proofs.YtpbflnfcgcldkaaGreatDoor.Side
/- The rules of the example's groove, walked. -/
namespace Go.Proofs.YtpbflnfcgcldkaaGreatDoor.Side
open Go.Sx Go.Proofs Go.RowKit
abbrev bdE (a b : Int) : Prop := (-4194304 ≤ a ∧ a ≤ 4194304) ∧ -4194304 ≤ b ∧ b ≤ 4194304
section
variable {w : World} {A : Option Addr} {c g q q0 q2 bt : Nat} {va vb : Value} {a b a0 b0 a2 b2 r s bd : Int} {vh : Value}
theorem C_step0 : Con0 Tryz.prog 350 [.agg #[.pointer none, vh, va]] w (I 0) := by
  refine Ret_of (vs := [_]) hm none' Tryz.func350 rfl Tryz.ntmps350 rfl ?_
  dsimp only [slotsOf]
  refine GE_seq ?_;refine GE_plain (.ld 0 [] (.st 1 .nil)) rfl ?_;refine GT_box (z := [_, _, _]) rfl rfl rfl rfl rfl rfl rfl (fun _ => GR_nil) (fun b1 => ?_)
  refine GT_st rfl rfl rfl rfl (V_assign rfl rfl) ?_;refine GT_nil ?_;refine GE_seq ?_;refine GE_seq ?_;refine GE_plain (.st 0 (.st 1 (.st 2 .nil))) rfl ?_;refine GT_st rfl rfl rfl rfl (V_field rfl rfl fo_516_0) ?_;refine GT_st rfl rfl rfl rfl (V_load rfl rfl ag_514 (CellAt.item rfl)) ?_;refine GT_st rfl rfl rfl rfl (V_eqlNilPtr rfl rfl rfl Tryz.underlying514) ?_;refine GT_nil ?_;refine GE_cond_t rfl ?_;refine GE_seq ?_;refine GE_slots (L' := []) trivial ?_;refine GE_plain (.st 0 .nil) rfl ?_;refine GT_st rfl rfl rfl rfl (V_assign rfl rfl) ?_;refine GT_nil ?_;refine GE_ret Tryz.func350 rfl (fun w hw => ⟨?_, hw.nil⟩)
  rfl
set_option maxRecDepth 20000 in
theorem C_step2 (h0 : PtAt w g q0 a0 b0) (h : PtAt w g q a b) (hb0 : bdE a0 b0) (hb : bdE a b) : Con0 Tryz.prog 350 [.agg #[ptr g q0, ptr g q, va]] w (I (max (amt2 (a - a0)) (amt2 (b - b0)))) := by
  refine Ret_of (vs := [_]) hm none' Tryz.func350 rfl Tryz.ntmps350 rfl ?_
  dsimp only [slotsOf]
  refine GE_seq ?_;refine GE_plain (.ld 0 [] (.st 1 .nil)) rfl ?_;refine GT_box (z := [_, _, _]) rfl rfl rfl rfl rfl rfl rfl (fun _ => GR_nil) (fun b1 => ?_)
  refine GT_st rfl rfl rfl rfl (V_assign rfl rfl) ?_;refine GT_nil ?_;refine GE_seq ?_;refine GE_seq ?_;refine GE_plain (.st 0 (.st 1 (.st 2 .nil))) rfl ?_;refine GT_st rfl rfl rfl rfl (V_field rfl rfl fo_516_0) ?_;refine GT_st rfl rfl rfl rfl (V_load rfl rfl ag_514 (CellAt.item rfl)) ?_;refine GT_st rfl rfl rfl rfl (V_eqlNilPtr rfl rfl rfl Tryz.underlying514) ?_;refine GT_nil ?_;refine GE_cond_f rfl ?_;refine GE_skip ?_;refine GE_seq ?_;refine GE_slots (L' := [(1, _)]) ⟨rfl, trivial⟩ ?_;refine GE_drawn (.st 0 (.st 1 (.st 2 (.st 3 (.st 4 (.st 5 (.st 6 (.st 7 (.st 8 (.st 9 (.st 10 (.st 12 (.st 13 (.st 14 (.st 15 (.st 16 (.st 17 (.st 18 (.st 19 (.st 20 (.st 21 (.st 22 (.ld 11 [12, 13, 14, 15, 16, 17, 18, 19, 20, 21, 22] (.ld 23 [] (.ld 24 [] (.ld 25 [] (.st 26 .nil))))))))))))))))))))))))))) [11, 23, 24, 25] (by decide +kernel) ?_;refine GT_st rfl rfl rfl rfl (V_field rfl rfl fo_516_1) ?_;refine GT_st rfl rfl rfl rfl (V_load rfl rfl ag_514 (CellAt.item rfl)) ?_;refine GT_st rfl rfl rfl rfl (V_nilCheck rfl rfl) ?_;refine GT_st rfl rfl rfl rfl (V_field rfl rfl fo_261_0) ?_;refine GT_st rfl rfl rfl rfl (V_load rfl rfl ag_2 (CellAt.old h.h0 (noM _))) ?_;refine GT_st rfl rfl rfl rfl (V_field rfl rfl fo_516_0) ?_;refine GT_st rfl rfl rfl rfl (V_load rfl rfl ag_514 (CellAt.item rfl)) ?_;refine GT_st rfl rfl rfl rfl (V_nilCheck rfl rfl) ?_;refine GT_st rfl rfl rfl rfl (V_field rfl rfl fo_261_0) ?_;refine GT_st rfl rfl rfl rfl (V_load rfl rfl ag_2 (CellAt.old h0.h0 (noM _))) ?_;refine GT_st rfl rfl rfl rfl (V_sub rfl rfl rfl (wrap_i64 (by omega))) ?_;refine GT_st rfl rfl rfl rfl (V_field rfl rfl fo_516_1) ?_;refine GT_st rfl rfl rfl rfl (V_load rfl rfl ag_514 (CellAt.item rfl)) ?_;refine GT_st rfl rfl rfl rfl (V_nilCheck rfl rfl) ?_
  refine GT_st rfl rfl rfl rfl (V_field rfl rfl fo_261_1) ?_;refine GT_st rfl rfl rfl rfl (V_load rfl rfl ag_2 (CellAt.old h.h1 (noM _))) ?_;refine GT_st rfl rfl rfl rfl (V_field rfl rfl fo_516_0) ?_;refine GT_st rfl rfl rfl rfl (V_load rfl rfl ag_514 (CellAt.item rfl)) ?_;refine GT_st rfl rfl rfl rfl (V_nilCheck rfl rfl) ?_;refine GT_st rfl rfl rfl rfl (V_field rfl rfl fo_261_1) ?_;refine GT_st rfl rfl rfl rfl (V_load rfl rfl ag_2 (CellAt.old h0.h1 (noM _))) ?_;refine GT_st rfl rfl rfl rfl (V_sub rfl rfl rfl (wrap_i64 (by omega))) ?_;refine GT_call0 rfl rfl rfl rfl rfl rfl rfl rfl rn_368 (fun w hw => C_gamount (by omega)) (GR_cons rfl rfl rfl rfl ((by first | exact V_field rfl rfl fo_516_1 | exact V_fieldA rfl rfl fo_516_1)) (GR_cons rfl rfl rfl rfl (V_load rfl rfl ag_514 (CellAt.item rfl)) (GR_cons rfl rfl rfl rfl ((by first | exact V_nilCheck rfl rfl | exact V_nilCheck_func rfl rfl | exact V_nilCheck_yield rfl rfl | exact V_nilCheck_iface rfl rfl)) (GR_cons rfl rfl rfl rfl ((by first | exact V_field rfl rfl fo_261_1 | exact V_fieldA rfl rfl fo_261_1)) (GR_cons rfl rfl rfl rfl (V_load rfl rfl ag_2 (CellAt.old h.h1 (noM _))) (GR_cons rfl rfl rfl rfl ((by first | exact V_field rfl rfl fo_516_0 | exact V_fieldA rfl rfl fo_516_0)) (GR_cons rfl rfl rfl rfl (V_load rfl rfl ag_514 (CellAt.item rfl)) (GR_cons rfl rfl rfl rfl ((by first | exact V_nilCheck rfl rfl | exact V_nilCheck_func rfl rfl | exact V_nilCheck_yield rfl rfl | exact V_nilCheck_iface rfl rfl)) (GR_cons rfl rfl rfl rfl ((by first | exact V_field rfl rfl fo_261_1 | exact V_fieldA rfl rfl fo_261_1)) (GR_cons rfl rfl rfl rfl (V_load rfl rfl ag_2 (CellAt.old h0.h1 (noM _))) (GR_cons rfl rfl rfl rfl (V_sub rfl rfl rfl (wrap_i64 (by omega))) (GR_nil)))))))))))) ?_
  refine GT_call0 rfl rfl rfl rfl rfl rfl rfl rfl rn_368 (fun w hw => C_gamount (by omega)) (GR_nil) ?_;refine GT_buildSlice (z := [_, _]) rfl rfl rfl rfl rfl Tryz.underlying43 zc_2 sz_2 (by decide) rfl rfl (fun _ => GR_nil) (fun b30 => ?_)
  refine GT_call0 rfl rfl rfl rfl rfl rfl rfl rfl rn_367 (fun w hw => C_gmost (x := amt2 (a - a0)) (y := amt2 (b - b0)) (RdL.own' hw eN_len)) (GR_nil) ?_;refine GT_st rfl rfl rfl rfl (V_assign rfl rfl) ?_;refine GT_nil ?_;refine GE_ret Tryz.func350 rfl (fun w hw => ⟨?_, hw.nil⟩)
  rfl
theorem C_bend0 : Con0 Tryz.prog 351 [.agg #[.pointer none, vh, va]] w (I 0) := by
  refine Ret_of (vs := [_]) hm none' Tryz.func351 rfl Tryz.ntmps351 rfl ?_
  dsimp only [slotsOf]
  refine GE_seq ?_;refine GE_plain (.ld 0 [] (.st 1 .nil)) rfl ?_;refine GT_box (z := [_, _, _]) rfl rfl rfl rfl rfl rfl rfl (fun _ => GR_nil) (fun b1 => ?_)
  refine GT_st rfl rfl rfl rfl (V_assign rfl rfl) ?_;refine GT_nil ?_;refine GE_seq ?_;refine GE_seq ?_;refine GE_plain (.st 0 (.st 1 (.st 2 (.st 3 (.st 4 (.st 5 (.st 6 (.st 7 .nil)))))))) rfl ?_;refine GT_st rfl rfl rfl rfl (V_field rfl rfl fo_516_0) ?_;refine GT_st rfl rfl rfl rfl (V_load rfl rfl ag_514 (CellAt.item rfl)) ?_;refine GT_st rfl rfl rfl rfl (V_eqlNilPtr rfl rfl rfl Tryz.underlying514) ?_;refine GT_st rfl rfl rfl rfl (V_move rfl rfl) ?_;refine GT_skip rfl rfl rfl rfl rfl (by decide) rfl rfl ?_;refine GT_skip rfl rfl rfl rfl rfl (by decide) rfl rfl ?_;refine GT_skip rfl rfl rfl rfl rfl (by decide) rfl rfl ?_;refine GT_st rfl rfl rfl rfl (V_pick_t rfl rfl rfl) ?_;refine GT_nil ?_;refine GE_cond_t rfl ?_;refine GE_seq ?_;refine GE_slots (L' := []) trivial ?_;refine GE_plain (.st 0 .nil) rfl ?_;refine GT_st rfl rfl rfl rfl (V_assign rfl rfl) ?_;refine GT_nil ?_;refine GE_ret Tryz.func351 rfl (fun w hw => ⟨?_, hw.nil⟩)
  rfl
theorem C_bendN : Con0 Tryz.prog 351 [.agg #[ptr g q0, vh, .pointer none]] w (I 0) := by
  refine Ret_of (vs := [_]) hm none' Tryz.func351 rfl Tryz.ntmps351 rfl ?_
  dsimp only [slotsOf]
  refine GE_seq ?_;refine GE_plain (.ld 0 [] (.st 1 .nil)) rfl ?_;refine GT_box (z := [_, _, _]) rfl rfl rfl rfl rfl rfl rfl (fun _ => GR_nil) (fun b1 => ?_)
  refine GT_st rfl rfl rfl rfl (V_assign rfl rfl) ?_;refine GT_nil ?_;refine GE_seq ?_;refine GE_seq ?_;refine GE_plain (.st 0 (.st 1 (.st 2 (.st 3 (.st 4 (.st 5 (.st 6 (.st 7 .nil)))))))) rfl ?_;refine GT_st rfl rfl rfl rfl (V_field rfl rfl fo_516_0) ?_;refine GT_st rfl rfl rfl rfl (V_load rfl rfl ag_514 (CellAt.item rfl)) ?_;refine GT_st rfl rfl rfl rfl (V_eqlNilPtr rfl rfl rfl Tryz.underlying514) ?_;refine GT_st rfl rfl rfl rfl (V_move rfl rfl) ?_;refine GT_st_g rfl rfl rfl rfl rfl rfl rfl (V_field rfl rfl fo_516_2) ?_;refine GT_st_g rfl rfl rfl rfl rfl rfl rfl (V_load rfl rfl ag_514 (CellAt.item rfl)) ?_;refine GT_st_g rfl rfl rfl rfl rfl rfl rfl (V_eqlNilPtr rfl rfl rfl Tryz.underlying514) ?_;refine GT_st rfl rfl rfl rfl (V_pick_f rfl rfl rfl) ?_;refine GT_nil ?_;refine GE_cond_t rfl ?_;refine GE_seq ?_;refine GE_slots (L' := []) trivial ?_;refine GE_plain (.st 0 .nil) rfl ?_;refine GT_st rfl rfl rfl rfl (V_assign rfl rfl) ?_;refine GT_nil ?_;refine GE_ret Tryz.func351 rfl (fun w hw => ⟨?_, hw.nil⟩)
  rfl
set_option maxRecDepth 20000 in
theorem C_bend2 (h0 : PtAt w g q0 a0 b0) (h : PtAt w g q a b) (h2 : PtAt w g q2 a2 b2) (hb0 : bdE a0 b0) (hb : bdE a b) (hb2 : bdE a2 b2) : Con0 Tryz.prog 351 [.agg #[ptr g q0, ptr g q, ptr g q2]] w (I (max (amt2 (a0 + a2 - 2 * a)) (amt2 (b0 + b2 - 2 * b)))) := by
  refine Ret_of (vs := [_]) hm none' Tryz.func351 rfl Tryz.ntmps351 rfl ?_
  dsimp only [slotsOf]
  refine GE_seq ?_;refine GE_plain (.ld 0 [] (.st 1 .nil)) rfl ?_;refine GT_box (z := [_, _, _]) rfl rfl rfl rfl rfl rfl rfl (fun _ => GR_nil) (fun b1 => ?_)
  refine GT_st rfl rfl rfl rfl (V_assign rfl rfl) ?_;refine GT_nil ?_;refine GE_seq ?_;refine GE_seq ?_;refine GE_plain (.st 0 (.st 1 (.st 2 (.st 3 (.st 4 (.st 5 (.st 6 (.st 7 .nil)))))))) rfl ?_;refine GT_st rfl rfl rfl rfl (V_field rfl rfl fo_516_0) ?_;refine GT_st rfl rfl rfl rfl (V_load rfl rfl ag_514 (CellAt.item rfl)) ?_;refine GT_st rfl rfl rfl rfl (V_eqlNilPtr rfl rfl rfl Tryz.underlying514) ?_;refine GT_st rfl rfl rfl rfl (V_move rfl rfl) ?_;refine GT_st_g rfl rfl rfl rfl rfl rfl rfl (V_field rfl rfl fo_516_2) ?_;refine GT_st_g rfl rfl rfl rfl rfl rfl rfl (V_load rfl rfl ag_514 (CellAt.item rfl)) ?_;refine GT_st_g rfl rfl rfl rfl rfl rfl rfl (V_eqlNilPtr rfl rfl rfl Tryz.underlying514) ?_;refine GT_st rfl rfl rfl rfl (V_pick_f rfl rfl rfl) ?_;refine GT_nil ?_;refine GE_cond_f rfl ?_;refine GE_skip ?_;refine GE_seq ?_;refine GE_slots (L' := [(1, _)]) ⟨rfl, trivial⟩ ?_;refine GE_drawn (.st 0 (.st 1 (.st 2 (.st 3 (.st 4 (.st 5 (.st 6 (.st 7 (.st 8 (.st 9 (.st 10 (.st 11 (.st 12 (.st 13 (.st 14 (.st 15 (.st 16 (.st 17 (.st 19 (.st 20 (.st 21 (.st 22 (.st 23 (.st 24 (.st 25 (.st 26 (.st 27 (.st 28 (.st 29 (.st 30 (.st 31 (.st 32 (.st 33 (.st 34 (.st 35 (.st 36 (.ld 18 [19, 20, 21, 22, 23, 24, 25, 26, 27, 28, 29, 30, 31, 32, 33, 34, 35, 36] (.ld 37 [] (.ld 38 [] (.ld 39 [] (.st 40 .nil))))))))))))))))))))))))))))))))))))))))) [18, 37, 38, 39] (by decide +kernel) ?_;refine GT_st rfl rfl rfl rfl (V_field rfl rfl fo_516_0) ?_;refine GT_st rfl rfl rfl rfl (V_load rfl rfl ag_514 (CellAt.item rfl)) ?_;refine GT_st rfl rfl rfl rfl (V_nilCheck rfl rfl) ?_;refine GT_st rfl rfl rfl rfl (V_field rfl rfl fo_261_0) ?_;refine GT_st rfl rfl rfl rfl (V_load rfl rfl ag_2 (CellAt.old h0.h0 (noM _))) ?_;refine GT_st rfl rfl rfl rfl (V_field rfl rfl fo_516_2) ?_
  refine GT_st rfl rfl rfl rfl (V_load rfl rfl ag_514 (CellAt.item rfl)) ?_;refine GT_st rfl rfl rfl rfl (V_nilCheck rfl rfl) ?_;refine GT_st rfl rfl rfl rfl (V_field rfl rfl fo_261_0) ?_;refine GT_st rfl rfl rfl rfl (V_load rfl rfl ag_2 (CellAt.old h2.h0 (noM _))) ?_;refine GT_st rfl rfl rfl rfl (V_add rfl rfl rfl (wrap_i64 (by omega))) ?_;refine GT_st rfl rfl rfl rfl (V_field rfl rfl fo_516_1) ?_;refine GT_st rfl rfl rfl rfl (V_load rfl rfl ag_514 (CellAt.item rfl)) ?_;refine GT_st rfl rfl rfl rfl (V_nilCheck rfl rfl) ?_;refine GT_st rfl rfl rfl rfl (V_field rfl rfl fo_261_0) ?_;refine GT_st rfl rfl rfl rfl (V_load rfl rfl ag_2 (CellAt.old h.h0 (noM _))) ?_;refine GT_st rfl rfl rfl rfl (V_mul rfl rfl rfl (wrap_i64 (by omega))) ?_;refine GT_st rfl rfl rfl rfl (V_sub rfl rfl rfl (wrap_i64 (by omega))) ?_;refine GT_st rfl rfl rfl rfl (V_field rfl rfl fo_516_0) ?_;refine GT_st rfl rfl rfl rfl (V_load rfl rfl ag_514 (CellAt.item rfl)) ?_;refine GT_st rfl rfl rfl rfl (V_nilCheck rfl rfl) ?_;refine GT_st rfl rfl rfl rfl (V_field rfl rfl fo_261_1) ?_;refine GT_st rfl rfl rfl rfl (V_load rfl rfl ag_2 (CellAt.old h0.h1 (noM _))) ?_;refine GT_st rfl rfl rfl rfl (V_field rfl rfl fo_516_2) ?_;refine GT_st rfl rfl rfl rfl (V_load rfl rfl ag_514 (CellAt.item rfl)) ?_;refine GT_st rfl rfl rfl rfl (V_nilCheck rfl rfl) ?_;refine GT_st rfl rfl rfl rfl (V_field rfl rfl fo_261_1) ?_;refine GT_st rfl rfl rfl rfl (V_load rfl rfl ag_2 (CellAt.old h2.h1 (noM _))) ?_;refine GT_st rfl rfl rfl rfl (V_add rfl rfl rfl (wrap_i64 (by omega))) ?_;refine GT_st rfl rfl rfl rfl (V_field rfl rfl fo_516_1) ?_;refine GT_st rfl rfl rfl rfl (V_load rfl rfl ag_514 (CellAt.item rfl)) ?_;refine GT_st rfl rfl rfl rfl (V_nilCheck rfl rfl) ?_;refine GT_st rfl rfl rfl rfl (V_field rfl rfl fo_261_1) ?_
  refine GT_st rfl rfl rfl rfl (V_load rfl rfl ag_2 (CellAt.old h.h1 (noM _))) ?_;refine GT_st rfl rfl rfl rfl (V_mul rfl rfl rfl (wrap_i64 (by omega))) ?_;refine GT_st rfl rfl rfl rfl (V_sub rfl rfl rfl (wrap_i64 (by omega))) ?_
  refine GT_call0 rfl rfl rfl rfl rfl rfl rfl rfl rn_368 (fun w hw => C_gamount (by omega)) (GR_cons rfl rfl rfl rfl ((by first | exact V_field rfl rfl fo_516_0 | exact V_fieldA rfl rfl fo_516_0)) (GR_cons rfl rfl rfl rfl (V_load rfl rfl ag_514 (CellAt.item rfl)) (GR_cons rfl rfl rfl rfl ((by first | exact V_nilCheck rfl rfl | exact V_nilCheck_func rfl rfl | exact V_nilCheck_yield rfl rfl | exact V_nilCheck_iface rfl rfl)) (GR_cons rfl rfl rfl rfl ((by first | exact V_field rfl rfl fo_261_1 | exact V_fieldA rfl rfl fo_261_1)) (GR_cons rfl rfl rfl rfl (V_load rfl rfl ag_2 (CellAt.old h0.h1 (noM _))) (GR_cons rfl rfl rfl rfl ((by first | exact V_field rfl rfl fo_516_2 | exact V_fieldA rfl rfl fo_516_2)) (GR_cons rfl rfl rfl rfl (V_load rfl rfl ag_514 (CellAt.item rfl)) (GR_cons rfl rfl rfl rfl ((by first | exact V_nilCheck rfl rfl | exact V_nilCheck_func rfl rfl | exact V_nilCheck_yield rfl rfl | exact V_nilCheck_iface rfl rfl)) (GR_cons rfl rfl rfl rfl ((by first | exact V_field rfl rfl fo_261_1 | exact V_fieldA rfl rfl fo_261_1)) (GR_cons rfl rfl rfl rfl (V_load rfl rfl ag_2 (CellAt.old h2.h1 (noM _))) (GR_cons rfl rfl rfl rfl (V_add rfl rfl rfl (wrap_i64 (by omega))) (GR_cons rfl rfl rfl rfl ((by first | exact V_field rfl rfl fo_516_1 | exact V_fieldA rfl rfl fo_516_1)) (GR_cons rfl rfl rfl rfl (V_load rfl rfl ag_514 (CellAt.item rfl)) (GR_cons rfl rfl rfl rfl ((by first | exact V_nilCheck rfl rfl | exact V_nilCheck_func rfl rfl | exact V_nilCheck_yield rfl rfl | exact V_nilCheck_iface rfl rfl)) (GR_cons rfl rfl rfl rfl ((by first | exact V_field rfl rfl fo_261_1 | exact V_fieldA rfl rfl fo_261_1)) (GR_cons rfl rfl rfl rfl (V_load rfl rfl ag_2 (CellAt.old h.h1 (noM _))) (GR_cons rfl rfl rfl rfl (V_mul rfl rfl rfl (wrap_i64 (by omega))) (GR_cons rfl rfl rfl rfl (V_sub rfl rfl rfl (wrap_i64 (by omega))) (GR_nil))))))))))))))))))) ?_
  refine GT_call0 rfl rfl rfl rfl rfl rfl rfl rfl rn_368 (fun w hw => C_gamount (by omega)) (GR_nil) ?_;refine GT_buildSlice (z := [_, _]) rfl rfl rfl rfl rfl Tryz.underlying43 zc_2 sz_2 (by decide) rfl rfl (fun _ => GR_nil) (fun b49 => ?_)
  refine GT_call0 rfl rfl rfl rfl rfl rfl rfl rfl rn_367 (fun w hw => C_gmost (x := amt2 (a0 + a2 - 2 * a)) (y := amt2 (b0 + b2 - 2 * b)) (RdL.own' hw eN_len)) (GR_nil) ?_;refine GT_st rfl rfl rfl rfl (V_assign rfl rfl) ?_;refine GT_nil ?_;refine GE_ret Tryz.func351 rfl (fun w hw => ⟨?_, hw.nil⟩)
  rfl
theorem C_thin (h : PtAt w g q a b) (hbd : bdE a b) (hb : BlkAt w bt (trkC A c r 1000) 509) (hx : ¬ b - a < 200) : Con0 Tryz.prog 330 [ptr bt 0, .agg #[vb, ptr g q, va]] w (.bool false) := by
  refine Ret_of (vs := [_, _]) hm none' Tryz.func330 rfl Tryz.ntmps330 rfl ?_
  dsimp only [slotsOf]
  refine GE_seq ?_;refine GE_plain (.ld 0 [] (.st 1 .nil)) rfl ?_;refine GT_box (z := [_, _, _]) rfl rfl rfl rfl rfl rfl rfl (fun _ => GR_nil) (fun b3 => ?_)
  refine GT_st rfl rfl rfl rfl (V_assign rfl rfl) ?_;refine GT_nil ?_;refine GE_seq ?_;refine GE_drawn (.st 0 (.st 2 (.st 3 (.st 4 (.st 5 (.st 6 (.ld 1 [2, 3, 4, 5, 6] (.st 7 (.st 8 .nil))))))))) [1] (by decide +kernel) ?_;refine GT_st rfl rfl rfl rfl (V_loadN (vs := [_, _, _]) rfl rfl ag_516 sz_516 rfl (CellsAt.item rfl)) ?_;refine GT_st rfl rfl rfl rfl (V_move rfl rfl) ?_;refine GT_st rfl rfl rfl rfl (V_nilCheck rfl rfl) ?_;refine GT_st rfl rfl rfl rfl (V_field rfl rfl fo_509_0) ?_;refine GT_st rfl rfl rfl rfl (V_field rfl rfl fo_418_2) ?_;refine GT_st rfl rfl rfl rfl (V_load rfl rfl ag_2 (CellAt.old (hb.cell rfl) (noM _))) ?_;refine GT_call0 rfl rfl rfl rfl rfl rfl rfl rfl rn_349 (fun w hw => C_nwidth (h.sh hw) hbd) (GR_cons rfl rfl rfl rfl (V_move rfl rfl) (GR_cons rfl rfl rfl rfl ((by first | exact V_nilCheck rfl rfl | exact V_nilCheck_func rfl rfl | exact V_nilCheck_yield rfl rfl | exact V_nilCheck_iface rfl rfl)) (GR_cons rfl rfl rfl rfl ((by first | exact V_field rfl rfl fo_509_0 | exact V_fieldA rfl rfl fo_509_0)) (GR_cons rfl rfl rfl rfl ((by first | exact V_field rfl rfl fo_418_2 | exact V_fieldA rfl rfl fo_418_2)) (GR_cons rfl rfl rfl rfl ((by first | exact V_load rfl rfl ag_2 (CellAt.item rfl) | exact V_load rfl rfl ag_2 (CellAt.old (hb.cell rfl) (noM _)))) (GR_nil)))))) ?_;refine GT_st rfl rfl rfl rfl (V_lss rfl rfl rfl) ?_;refine GT_st rfl rfl rfl rfl (V_assign rfl rfl) ?_;refine GT_nil ?_;refine GE_ret Tryz.func330 rfl (fun w hw => ⟨?_, hw.nil⟩)
  refine congrArg Value.bool ?_; exact decide_eq_false hx
theorem C_wide (h : PtAt w g q a b) (hbd : bdE a b) (hb : BlkAt w bt (trkC A c r 1000) 509) (hx : ¬ 2000 < b - a) : Con0 Tryz.prog 331 [ptr bt 0, .agg #[vb, ptr g q, va]] w (.bool false) := by
  refine Ret_of (vs := [_, _]) hm none' Tryz.func331 rfl Tryz.ntmps331 rfl ?_
  dsimp only [slotsOf]
  refine GE_seq ?_;refine GE_plain (.ld 0 [] (.st 1 .nil)) rfl ?_;refine GT_box (z := [_, _, _]) rfl rfl rfl rfl rfl rfl rfl (fun _ => GR_nil) (fun b3 => ?_)
  refine GT_st rfl rfl rfl rfl (V_assign rfl rfl) ?_;refine GT_nil ?_;refine GE_seq ?_;refine GE_drawn (.st 0 (.st 2 (.st 3 (.st 4 (.st 5 (.st 6 (.ld 1 [2, 3, 4, 5, 6] (.st 7 (.st 8 .nil))))))))) [1] (by decide +kernel) ?_;refine GT_st rfl rfl rfl rfl (V_loadN (vs := [_, _, _]) rfl rfl ag_516 sz_516 rfl (CellsAt.item rfl)) ?_;refine GT_st rfl rfl rfl rfl (V_move rfl rfl) ?_;refine GT_st rfl rfl rfl rfl (V_nilCheck rfl rfl) ?_;refine GT_st rfl rfl rfl rfl (V_field rfl rfl fo_509_0) ?_;refine GT_st rfl rfl rfl rfl (V_field rfl rfl fo_418_3) ?_;refine GT_st rfl rfl rfl rfl (V_load rfl rfl ag_2 (CellAt.old (hb.cell rfl) (noM _))) ?_;refine GT_call0 rfl rfl rfl rfl rfl rfl rfl rfl rn_349 (fun w hw => C_nwidth (h.sh hw) hbd) (GR_cons rfl rfl rfl rfl (V_move rfl rfl) (GR_cons rfl rfl rfl rfl ((by first | exact V_nilCheck rfl rfl | exact V_nilCheck_func rfl rfl | exact V_nilCheck_yield rfl rfl | exact V_nilCheck_iface rfl rfl)) (GR_cons rfl rfl rfl rfl ((by first | exact V_field rfl rfl fo_509_0 | exact V_fieldA rfl rfl fo_509_0)) (GR_cons rfl rfl rfl rfl ((by first | exact V_field rfl rfl fo_418_3 | exact V_fieldA rfl rfl fo_418_3)) (GR_cons rfl rfl rfl rfl ((by first | exact V_load rfl rfl ag_2 (CellAt.item rfl) | exact V_load rfl rfl ag_2 (CellAt.old (hb.cell rfl) (noM _)))) (GR_nil)))))) ?_;refine GT_st rfl rfl rfl rfl (V_gtr rfl rfl rfl) ?_;refine GT_st rfl rfl rfl rfl (V_assign rfl rfl) ?_;refine GT_nil ?_;refine GE_ret Tryz.func331 rfl (fun w hw => ⟨?_, hw.nil⟩)
  refine congrArg Value.bool ?_; exact decide_eq_false hx
theorem C_steep (hs : ∀ w' H, SH w none' H w' → Con0 Tryz.prog 350 [.agg #[vb, vh, va]] w' (I s)) (hb : BlkAt w bt (trkC A c r 1000) 509) (hr : 0 ≤ r ∧ r ≤ 4194304) (hs2 : 0 ≤ s ∧ s ≤ 10000) : Con0 Tryz.prog 332 [ptr bt 0, .agg #[vb, vh, va]] w (.bool (decide (710000 * r < 113000000 * s))) := by
  refine Ret_of (vs := [_, _]) hm none' Tryz.func332 rfl Tryz.ntmps332 rfl ?_
  dsimp only [slotsOf]
  refine GE_seq ?_;refine GE_plain (.ld 0 [] (.st 1 .nil)) rfl ?_;refine GT_box (z := [_, _, _]) rfl rfl rfl rfl rfl rfl rfl (fun _ => GR_nil) (fun b3 => ?_)
  refine GT_st rfl rfl rfl rfl (V_assign rfl rfl) ?_;refine GT_nil ?_;refine GE_seq ?_;refine GE_drawn (.st 0 (.st 1 (.st 2 (.st 3 (.st 4 (.st 5 (.st 8 (.st 9 (.st 10 (.st 11 (.st 12 (.st 13 (.st 14 (.st 15 (.st 16 (.st 17 (.st 18 (.ld 6 [0, 1, 2, 3, 4, 8, 9, 10, 11, 12, 13, 14, 15, 16, 17, 18] (.st 7 (.st 19 (.st 20 .nil))))))))))))))))))))) [6] (by decide +kernel) ?_;refine GT_st rfl rfl rfl rfl (V_move rfl rfl) ?_;refine GT_st rfl rfl rfl rfl (V_nilCheck rfl rfl) ?_;refine GT_st rfl rfl rfl rfl (V_field rfl rfl fo_509_3) ?_;refine GT_st rfl rfl rfl rfl (V_load rfl rfl ag_2 (CellAt.old (hb.cell rfl) (noM _))) ?_;refine GT_st rfl rfl rfl rfl (V_mul rfl rfl rfl (wrap_i64 (by omega))) ?_;refine GT_st rfl rfl rfl rfl (V_loadN (vs := [_, _, _]) rfl rfl ag_516 sz_516 rfl (CellsAt.item rfl)) ?_;refine GT_st rfl rfl rfl rfl (V_move rfl rfl) ?_;refine GT_st rfl rfl rfl rfl (V_nilCheck rfl rfl) ?_;refine GT_st rfl rfl rfl rfl (V_field rfl rfl fo_509_2) ?_;refine GT_st rfl rfl rfl rfl (V_load rfl rfl ag_2 (CellAt.old (hb.cell rfl) (noM _))) ?_;refine GT_st rfl rfl rfl rfl (V_mul rfl rfl rfl (wrap_i64 (by omega))) ?_;refine GT_st rfl rfl rfl rfl (V_move rfl rfl) ?_;refine GT_st rfl rfl rfl rfl (V_nilCheck rfl rfl) ?_;refine GT_st rfl rfl rfl rfl (V_field rfl rfl fo_509_0) ?_;refine GT_st rfl rfl rfl rfl (V_field rfl rfl fo_418_4) ?_;refine GT_st rfl rfl rfl rfl (V_load rfl rfl ag_2 (CellAt.old (hb.cell rfl) (noM _))) ?_;refine GT_st rfl rfl rfl rfl (V_mul rfl rfl rfl (wrap_i64 (by omega))) ?_
  refine GT_call0 rfl rfl rfl rfl rfl rfl rfl rfl rn_350 (fun w hw => hs _ _ hw) (GR_cons rfl rfl rfl rfl (V_move rfl rfl) (GR_cons rfl rfl rfl rfl ((by first | exact V_nilCheck rfl rfl | exact V_nilCheck_func rfl rfl | exact V_nilCheck_yield rfl rfl | exact V_nilCheck_iface rfl rfl)) (GR_cons rfl rfl rfl rfl ((by first | exact V_field rfl rfl fo_509_3 | exact V_fieldA rfl rfl fo_509_3)) (GR_cons rfl rfl rfl rfl ((by first | exact V_load rfl rfl ag_2 (CellAt.item rfl) | exact V_load rfl rfl ag_2 (CellAt.old (hb.cell rfl) (noM _)))) (GR_cons rfl rfl rfl rfl (V_mul rfl rfl rfl (wrap_i64 (by omega))) (GR_cons rfl rfl rfl rfl (V_move rfl rfl) (GR_cons rfl rfl rfl rfl ((by first | exact V_nilCheck rfl rfl | exact V_nilCheck_func rfl rfl | exact V_nilCheck_yield rfl rfl | exact V_nilCheck_iface rfl rfl)) (GR_cons rfl rfl rfl rfl ((by first | exact V_field rfl rfl fo_509_2 | exact V_fieldA rfl rfl fo_509_2)) (GR_cons rfl rfl rfl rfl ((by first | exact V_load rfl rfl ag_2 (CellAt.item rfl) | exact V_load rfl rfl ag_2 (CellAt.old (hb.cell rfl) (noM _)))) (GR_cons rfl rfl rfl rfl (V_mul rfl rfl rfl (wrap_i64 (by omega))) (GR_cons rfl rfl rfl rfl (V_move rfl rfl) (GR_cons rfl rfl rfl rfl ((by first | exact V_nilCheck rfl rfl | exact V_nilCheck_func rfl rfl | exact V_nilCheck_yield rfl rfl | exact V_nilCheck_iface rfl rfl)) (GR_cons rfl rfl rfl rfl ((by first | exact V_field rfl rfl fo_509_0 | exact V_fieldA rfl rfl fo_509_0)) (GR_cons rfl rfl rfl rfl ((by first | exact V_field rfl rfl fo_418_4 | exact V_fieldA rfl rfl fo_418_4)) (GR_cons rfl rfl rfl rfl ((by first | exact V_load rfl rfl ag_2 (CellAt.item rfl) | exact V_load rfl rfl ag_2 (CellAt.old (hb.cell rfl) (noM _)))) (GR_cons rfl rfl rfl rfl (V_mul rfl rfl rfl (wrap_i64 (by omega))) (GR_nil))))))))))))))))) ?_
  refine GT_st rfl rfl rfl rfl (V_mul rfl rfl rfl (wrap_i64 (by omega))) ?_;refine GT_st rfl rfl rfl rfl (V_gtr rfl rfl rfl) ?_;refine GT_st rfl rfl rfl rfl (V_assign rfl rfl) ?_;refine GT_nil ?_;refine GE_ret Tryz.func332 rfl (fun w hw => ⟨?_, hw.nil⟩)
  refine congrArg Value.bool (decide_eq_decide.2 ?_); omega
theorem C_sudden (hs : ∀ w' H, SH w none' H w' → Con0 Tryz.prog 351 [.agg #[vb, vh, va]] w' (I bd)) (hb : BlkAt w bt (trkC A c r 1000) 509) (hx : ¬ 1000 < bd) : Con0 Tryz.prog 333 [ptr bt 0, .agg #[vb, vh, va]] w (.bool false) := by
  refine Ret_of (vs := [_, _]) hm none' Tryz.func333 rfl Tryz.ntmps333 rfl ?_
  dsimp only [slotsOf]
  refine GE_seq ?_;refine GE_plain (.ld 0 [] (.st 1 .nil)) rfl ?_;refine GT_box (z := [_, _, _]) rfl rfl rfl rfl rfl rfl rfl (fun _ => GR_nil) (fun b3 => ?_)
  refine GT_st rfl rfl rfl rfl (V_assign rfl rfl) ?_;refine GT_nil ?_;refine GE_seq ?_;refine GE_drawn (.st 0 (.st 2 (.st 3 (.st 4 (.st 5 (.st 6 (.ld 1 [2, 3, 4, 5, 6] (.st 7 (.st 8 .nil))))))))) [1] (by decide +kernel) ?_;refine GT_st rfl rfl rfl rfl (V_loadN (vs := [_, _, _]) rfl rfl ag_516 sz_516 rfl (CellsAt.item rfl)) ?_;refine GT_st rfl rfl rfl rfl (V_move rfl rfl) ?_;refine GT_st rfl rfl rfl rfl (V_nilCheck rfl rfl) ?_;refine GT_st rfl rfl rfl rfl (V_field rfl rfl fo_509_0) ?_;refine GT_st rfl rfl rfl rfl (V_field rfl rfl fo_418_5) ?_;refine GT_st rfl rfl rfl rfl (V_load rfl rfl ag_2 (CellAt.old (hb.cell rfl) (noM _))) ?_;refine GT_call0 rfl rfl rfl rfl rfl rfl rfl rfl rn_351 (fun w hw => hs _ _ hw) (GR_cons rfl rfl rfl rfl (V_move rfl rfl) (GR_cons rfl rfl rfl rfl ((by first | exact V_nilCheck rfl rfl | exact V_nilCheck_func rfl rfl | exact V_nilCheck_yield rfl rfl | exact V_nilCheck_iface rfl rfl)) (GR_cons rfl rfl rfl rfl ((by first | exact V_field rfl rfl fo_509_0 | exact V_fieldA rfl rfl fo_509_0)) (GR_cons rfl rfl rfl rfl ((by first | exact V_field rfl rfl fo_418_5 | exact V_fieldA rfl rfl fo_418_5)) (GR_cons rfl rfl rfl rfl ((by first | exact V_load rfl rfl ag_2 (CellAt.item rfl) | exact V_load rfl rfl ag_2 (CellAt.old (hb.cell rfl) (noM _)))) (GR_nil)))))) ?_;refine GT_st rfl rfl rfl rfl (V_gtr rfl rfl rfl) ?_;refine GT_st rfl rfl rfl rfl (V_assign rfl rfl) ?_;refine GT_nil ?_;refine GE_ret Tryz.func333 rfl (fun w hw => ⟨?_, hw.nil⟩)
  refine congrArg Value.bool ?_; exact decide_eq_false hx
theorem arc_bd (hr : 0 ≤ r ∧ r ≤ 4194304) : 0 ≤ 710 * r * (710 * r) ∧ 710 * r * (710 * r) ≤ 9223372036854775807 := by
  have h1 : 0 ≤ 710 * r := by omega
  have h2 : 710 * r ≤ 2977955840 := by omega
  refine ⟨Int.mul_nonneg h1 h1, ?_⟩
  have := Int.mul_le_mul h2 h2 h1 (by decide)
  omega
theorem C_arc (hb : BlkAt w bt (trkC A c r 1000) 509) (hr : 0 ≤ r ∧ r ≤ 4194304) : Con0 Tryz.prog 352 [ptr bt 0] w (I (710 * r * (710 * r) / 12769000000)) := by
  have h1 := arc_bd hr
  have h2 : (710 * r * (710 * r)).tdiv 12769000000 = 710 * r * (710 * r) / 12769000000 := Int.tdiv_eq_ediv_of_nonneg h1.1
  refine Ret_of (vs := [_]) hm none' Tryz.func352 rfl Tryz.ntmps352 rfl ?_
  dsimp only [slotsOf]
  refine GE_seq ?_;refine GE_plain (.st 0 .nil) rfl ?_;refine GT_st rfl rfl rfl rfl (V_assign rfl rfl) ?_;refine GT_nil ?_;refine GE_seq ?_;refine GE_drawn (.st 0 (.st 1 (.st 2 (.st 3 (.st 4 (.st 5 (.st 6 (.st 7 (.st 8 (.st 9 (.st 10 (.st 11 .nil)))))))))))) [] (by decide +kernel) ?_;refine GT_st rfl rfl rfl rfl (V_move rfl rfl) ?_;refine GT_st rfl rfl rfl rfl (V_nilCheck rfl rfl) ?_;refine GT_st rfl rfl rfl rfl (V_field rfl rfl fo_509_2) ?_;refine GT_st rfl rfl rfl rfl (V_load rfl rfl ag_2 (CellAt.old (hb.cell rfl) (noM _))) ?_;refine GT_st rfl rfl rfl rfl (V_mul rfl rfl rfl (wrap_i64 (by omega))) ?_;refine GT_st rfl rfl rfl rfl (V_move rfl rfl) ?_;refine GT_st rfl rfl rfl rfl (V_nilCheck rfl rfl) ?_;refine GT_st rfl rfl rfl rfl (V_field rfl rfl fo_509_3) ?_;refine GT_st rfl rfl rfl rfl (V_load rfl rfl ag_2 (CellAt.old (hb.cell rfl) (noM _))) ?_;refine GT_st rfl rfl rfl rfl (V_mul rfl rfl rfl (wrap_i64 (by omega))) ?_;refine GT_st rfl rfl rfl rfl (V_assign rfl rfl) ?_;refine GT_st rfl rfl rfl rfl (V_assign rfl rfl) ?_;refine GT_nil ?_;refine GE_seq ?_;refine GE_slots (L' := [(3, _), (4, _)]) ⟨rfl, rfl, trivial⟩ ?_;refine GE_plain (.st 0 (.st 1 (.st 2 (.st 3 (.st 4 (.st 5 (.st 6 (.st 7 .nil)))))))) rfl ?_;refine GT_st rfl rfl rfl rfl (V_move rfl rfl) ?_;refine GT_st rfl rfl rfl rfl (V_move rfl rfl) ?_;refine GT_st rfl rfl rfl rfl (V_mul rfl rfl rfl ((wrap_i64 (by omega)))) ?_;refine GT_st rfl rfl rfl rfl (V_move rfl rfl) ?_;refine GT_st rfl rfl rfl rfl (V_move rfl rfl) ?_;refine GT_st rfl rfl rfl rfl (V_mul rfl rfl rfl ((wrap_i64 (show -9223372036854775808 ≤ (113000 : Int) * 113000 ∧ (113000 : Int) * 113000 ≤ 9223372036854775807 by decide)).trans (show (113000 : Int) * 113000 = 12769000000 by decide))) ?_
  refine GT_st rfl rfl rfl rfl (V_quo rfl rfl rfl (by omega) ((wrap_i64 (by rw [h2]; omega)).trans h2)) ?_;refine GT_st rfl rfl rfl rfl (V_assign rfl rfl) ?_;refine GT_nil ?_;refine GE_ret Tryz.func352 rfl (fun w hw => ⟨?_, hw.nil⟩)
  rfl
theorem C_sharp (hs : ∀ w' H, SH w none' H w' → Con0 Tryz.prog 351 [.agg #[vb, vh, va]] w' (I bd)) (hb : BlkAt w bt (trkC A c r 1000) 509) (hr : 0 ≤ r ∧ r ≤ 4194304) (hx : 0 ≤ bd ∧ bd ≤ 100000) : Con0 Tryz.prog 334 [ptr bt 0, .agg #[vb, vh, va]] w (.bool (decide (710 * r * (710 * r) / 12769000000 < bd * 100))) := by
  refine Ret_of (vs := [_, _]) hm none' Tryz.func334 rfl Tryz.ntmps334 rfl ?_
  dsimp only [slotsOf]
  refine GE_seq ?_;refine GE_plain (.ld 0 [] (.st 1 .nil)) rfl ?_;refine GT_box (z := [_, _, _]) rfl rfl rfl rfl rfl rfl rfl (fun _ => GR_nil) (fun b3 => ?_)
  refine GT_st rfl rfl rfl rfl (V_assign rfl rfl) ?_;refine GT_nil ?_;refine GE_seq ?_;refine GE_drawn (.st 0 (.st 2 (.st 3 (.st 4 (.st 5 (.st 6 (.st 8 (.ld 1 [2, 3, 4, 5, 6, 8] (.st 7 (.ld 9 [2, 3, 4, 5, 6, 7] (.st 10 (.st 11 .nil)))))))))))) [1, 9] (by decide +kernel) ?_;refine GT_st rfl rfl rfl rfl (V_loadN (vs := [_, _, _]) rfl rfl ag_516 sz_516 rfl (CellsAt.item rfl)) ?_;refine GT_st rfl rfl rfl rfl (V_move rfl rfl) ?_;refine GT_st rfl rfl rfl rfl (V_nilCheck rfl rfl) ?_;refine GT_st rfl rfl rfl rfl (V_field rfl rfl fo_509_0) ?_;refine GT_st rfl rfl rfl rfl (V_field rfl rfl fo_418_6) ?_;refine GT_st rfl rfl rfl rfl (V_load rfl rfl ag_2 (CellAt.old (hb.cell rfl) (noM _))) ?_;refine GT_st rfl rfl rfl rfl (V_move rfl rfl) ?_;refine GT_call0 rfl rfl rfl rfl rfl rfl rfl rfl rn_351 (fun w hw => hs _ _ hw) (GR_cons rfl rfl rfl rfl (V_move rfl rfl) (GR_cons rfl rfl rfl rfl ((by first | exact V_nilCheck rfl rfl | exact V_nilCheck_func rfl rfl | exact V_nilCheck_yield rfl rfl | exact V_nilCheck_iface rfl rfl)) (GR_cons rfl rfl rfl rfl ((by first | exact V_field rfl rfl fo_509_0 | exact V_fieldA rfl rfl fo_509_0)) (GR_cons rfl rfl rfl rfl ((by first | exact V_field rfl rfl fo_418_6 | exact V_fieldA rfl rfl fo_418_6)) (GR_cons rfl rfl rfl rfl ((by first | exact V_load rfl rfl ag_2 (CellAt.item rfl) | exact V_load rfl rfl ag_2 (CellAt.old (hb.cell rfl) (noM _)))) (GR_cons rfl rfl rfl rfl (V_move rfl rfl) (GR_nil))))))) ?_;refine GT_st rfl rfl rfl rfl (V_mul rfl rfl rfl (wrap_i64 (by omega))) ?_
  refine GT_call0 rfl rfl rfl rfl rfl rfl rfl rfl rn_352 (fun w hw => C_arc (hb.sh hw) hr) (GR_cons rfl rfl rfl rfl (V_move rfl rfl) (GR_cons rfl rfl rfl rfl ((by first | exact V_nilCheck rfl rfl | exact V_nilCheck_func rfl rfl | exact V_nilCheck_yield rfl rfl | exact V_nilCheck_iface rfl rfl)) (GR_cons rfl rfl rfl rfl ((by first | exact V_field rfl rfl fo_509_0 | exact V_fieldA rfl rfl fo_509_0)) (GR_cons rfl rfl rfl rfl ((by first | exact V_field rfl rfl fo_418_6 | exact V_fieldA rfl rfl fo_418_6)) (GR_cons rfl rfl rfl rfl ((by first | exact V_load rfl rfl ag_2 (CellAt.item rfl) | exact V_load rfl rfl ag_2 (CellAt.old (hb.cell rfl) (noM _)))) (GR_cons rfl rfl rfl rfl (V_mul rfl rfl rfl (wrap_i64 (by omega))) (GR_nil))))))) ?_;refine GT_st rfl rfl rfl rfl (V_gtr rfl rfl rfl) ?_;refine GT_st rfl rfl rfl rfl (V_assign rfl rfl) ?_;refine GT_nil ?_;refine GE_ret Tryz.func334 rfl (fun w hw => ⟨?_, hw.nil⟩)
  rfl
end
end Go.Proofs.YtpbflnfcgcldkaaGreatDoor.Side
/- The example's groove: its rule at a point, its points, walked. -/
namespace Go.Proofs.YtpbflnfcgcldkaaGreatDoor.Side
open Go.Sx Go.Proofs Go.RowKit
def fid : Nat → Nat
  | 1 => 330
  | 2 => 331
  | 3 => 332
  | 4 => 333
  | _ => 334
abbrev rulC : List Value := [.nilFunc, .func (.func 330) #[] #[], .func (.func 331) #[] #[], .func (.func 332) #[] #[], .func (.func 333) #[] #[], .func (.func 334) #[] #[]]
theorem rulC_at {i : Nat} (h : 1 ≤ i ∧ i < 6) : rulC[0 + i * 1]? = some (.func (.func (fid i)) #[] #[]) := by
  rcases (show i = 1 ∨ i = 2 ∨ i = 3 ∨ i = 4 ∨ i = 5 by omega) with rfl | rfl | rfl | rfl | rfl <;> rfl
theorem runs_fid {i : Nat} (h : 1 ≤ i ∧ i < 6) : runs Tryz.prog (fid i) = true := by
  rcases (show i = 1 ∨ i = 2 ∨ i = 3 ∨ i = 4 ∨ i = 5 by omega) with rfl | rfl | rfl | rfl | rfl
  · exact rn_330
  · exact rn_331
  · exact rn_332
  · exact rn_333
  · exact rn_334
structure RulOk (w : World) (bt : Nat) (vb vh va : Value) (st : Bool) : Prop where
  thin : ∀ w' H, SH w none' H w' → Con0 Tryz.prog 330 [ptr bt 0, .agg #[vb, vh, va]] w' (.bool false)
  wide : ∀ w' H, SH w none' H w' → Con0 Tryz.prog 331 [ptr bt 0, .agg #[vb, vh, va]] w' (.bool false)
  steep : ∀ w' H, SH w none' H w' → Con0 Tryz.prog 332 [ptr bt 0, .agg #[vb, vh, va]] w' (.bool st)
  sudden : ∀ w' H, SH w none' H w' → Con0 Tryz.prog 333 [ptr bt 0, .agg #[vb, vh, va]] w' (.bool false)
  sharp : st = false → ∀ w' H, SH w none' H w' → Con0 Tryz.prog 334 [ptr bt 0, .agg #[vb, vh, va]] w' (.bool false)
def resB (st : Bool) (i : Nat) : Bool := decide (i = 3) && st
section
variable {w : World} {A : Option Addr} {c g q q0 q2 bt i : Nat} {va vb vh : Value} {r : Int} {st : Bool}
theorem RulOk.at (h : RulOk w bt vb vh va st) (hi : 1 ≤ i ∧ i < 6) (h3 : 3 < i → st = false) : ∀ w' H, SH w none' H w' → Con0 Tryz.prog (fid i) [ptr bt 0, .agg #[vb, vh, va]] w' (.bool (resB st i)) := by
  intro w' H m
  rcases (show i = 1 ∨ i = 2 ∨ i = 3 ∨ i = 4 ∨ i = 5 by omega) with rfl | rfl | rfl | rfl | rfl
  · exact h.thin _ _ m
  · exact h.wide _ _ m
  · exact h.steep _ _ m
  · exact h.sudden _ _ m
  · exact h.sharp (h3 (by omega)) _ _ m
set_option maxRecDepth 20000 in
theorem C_rule (h : RulOk w bt vb vh va st) : Con0 Tryz.prog 312 [ptr bt 0, .agg #[vb, vh, va]] w (I (if st = true then 3 else 0)) := by
  refine Ret_of (vs := [_, _]) hm none' Tryz.func312 rfl Tryz.ntmps312 rfl ?_
  dsimp only [slotsOf]
  refine GE_seq ?_;refine GE_plain (.ld 0 [] (.st 1 .nil)) rfl ?_;refine GT_box (z := [_, _, _]) rfl rfl rfl rfl rfl rfl rfl (fun _ => GR_nil) (fun b3 => ?_)
  refine GT_st rfl rfl rfl rfl (V_assign rfl rfl) ?_;refine GT_nil ?_;refine GE_seq ?_;refine GE_plain (.st 0 (.ld 1 [] (.ld 2 [] .nil))) rfl ?_;refine GT_st rfl rfl rfl rfl (V_build (vs := [_, _, _, _, _, _]) rfl rfl zc_543 pl_543 sa_543 rfl) ?_;refine GT_alloc rfl rfl rfl rfl rfl zc_543 (fun _ => GR_nil) (fun b5 => ?_)
  refine GT_store (vs := [_, _, _, _, _, _]) (l' := [_, _, _, _, _, _]) rfl rfl rfl rfl rfl rfl rfl sz_543 rfl rfl (Nat.le_of_ble_eq_true rfl) rfl (GR_nil) ?_;refine GT_nil ?_;refine GE_seq ?_;refine GE_seq ?_;refine GE_plain (.st 0 .nil) rfl ?_;refine GT_st rfl rfl rfl rfl (V_assign rfl rfl) ?_;refine GT_nil ?_;refine GE_block ?_;refine GE_to (GE_loop (ι := Nat) (fun i => 6 - i) (fun i => [(0, ptr bt 0), (3, ptr b3 0), (5, ptr b5 0), (6, I i)]) (fun i => [(b5, blk rulC 543), (b3, blk [vb, vh, va] 516)]) (fun i => (1 ≤ i ∧ i ≤ 6) ∧ (3 < i → st = false)) ?_ 1 ?_) ⟨rfl, rfl, rfl, rfl, trivial⟩ (HS.cons rfl (HS.cons rfl HS.nil))
  · rintro i ⟨hi, h3⟩ ih
    refine GE_seq ?_;refine GE_seq ?_;refine GE_plain (.st 0 (.st 1 .nil)) rfl ?_;refine GT_st rfl rfl rfl rfl (V_move rfl rfl) ?_;refine GT_st rfl rfl rfl rfl (V_lss rfl rfl rfl) ?_;refine GT_nil ?_;refine GE_cond rfl (fun q1 => ?_) (fun q1 => ?_)
    · have hi6 : i < 6 := (by omega)
      refine GE_skip ?_;refine GE_seq ?_;refine GE_block ?_;refine GE_seq ?_;refine GE_drawn (.st 0 (.st 1 (.st 2 (.st 3 (.st 4 (.ld 5 [] .nil)))))) [5] (by decide +kernel) ?_;refine GT_st rfl rfl rfl rfl (V_move rfl rfl) ?_;refine GT_st rfl rfl rfl rfl (V_indexArr rfl rfl rfl Tryz.underlying543 sz_541 (kk := i) rfl hi6) ?_;refine GT_st rfl rfl rfl rfl (V_load rfl rfl ag_541 (CellAt.item (rulC_at ⟨hi.1, hi6⟩))) ?_;refine GT_st rfl rfl rfl rfl (V_move rfl rfl) ?_;refine GT_st rfl rfl rfl rfl (V_loadN (vs := [_, _, _]) rfl rfl ag_516 sz_516 rfl (CellsAt.item rfl)) ?_;refine GT_call0 (fi := fid i) rfl rfl rfl rfl rfl rfl rfl rfl (runs_fid ⟨hi.1, hi6⟩) (fun w hw => h.at ⟨hi.1, hi6⟩ h3 _ _ hw) (GR_nil) ?_;refine GT_nil ?_;refine GE_condB rfl (fun q2 => ?_) (fun q2 => ?_)
      · have hq : i = 3 ∧ st = true := (by simpa [resB] using q2)
        refine GE_seq ?_;refine GE_slots (L' := [(6, _)]) ⟨rfl, trivial⟩ ?_;refine GE_plain (.st 0 (.st 1 .nil)) rfl ?_;refine GT_st rfl rfl rfl rfl (V_move rfl rfl) ?_;refine GT_st rfl rfl rfl rfl (V_assign rfl rfl) ?_;refine GT_nil ?_;refine GE_ret Tryz.func312 rfl (fun w hw => ⟨?_, hw.nil⟩)
        rw [if_pos hq.2, hq.1]; rfl
      · refine GE_skip ?_;refine GE_inBlock ?_;refine GE_slots (L' := [(0, _), (3, _), (5, _), (6, _)]) ⟨rfl, rfl, rfl, rfl, trivial⟩ ?_;refine GE_plain (.st 0 (.st 1 (.ld 2 [] .nil))) rfl ?_;refine GT_st rfl rfl rfl rfl (V_move rfl rfl) ?_;refine GT_st rfl rfl rfl rfl (V_add rfl rfl rfl (wrap_i64 (by omega))) ?_;refine GT_ldv rfl rfl rfl rfl rfl (V_assign rfl rfl) (GR_nil) ?_;refine GT_nil ?_
        exact GE_to (ih (i + 1) ⟨⟨by omega, by omega⟩, fun q => by by_cases e : i = 3; (subst e; simpa [resB] using q2); exact h3 (by omega)⟩ (by omega)) ⟨rfl, rfl, rfl, rfl, trivial⟩ (HS.cons rfl (HS.cons rfl HS.nil))
    · have hst := h3 (by omega)
      refine GE_exit rfl ?_;refine GE_seq ?_;refine GE_slots (L' := []) trivial ?_;refine GE_plain (.st 0 .nil) rfl ?_;refine GT_st rfl rfl rfl rfl (V_assign rfl rfl) ?_;refine GT_nil ?_;refine GE_ret Tryz.func312 rfl (fun w hw => ⟨?_, hw.nil⟩)
      rw [hst]; rfl
  · exact ⟨⟨by omega, by omega⟩, fun q => by omega⟩
def nrV (g : Nat) : Nat → Value
  | 0 => .agg #[.pointer none, ptr g 0, ptr g 2]
  | 1 => .agg #[ptr g 0, ptr g 2, ptr g 4]
  | _ => .agg #[ptr g 2, ptr g 4, .pointer none]
theorem C_gat0 (hb : BlkAt w bt (trkC (some ⟨g, 0, none⟩) c r 1000) 509) : Con0 Tryz.prog 329 [ptr bt 0, I 0] w (.agg #[.pointer none, ptr g 0, ptr g 2]) := by
  refine Ret_of (vs := [_, _]) hm none' Tryz.func329 rfl Tryz.ntmps329 rfl ?_
  dsimp only [slotsOf]
  refine GE_seq ?_;refine GE_plain (.ld 0 [] .nil) rfl ?_;refine GT_alloc rfl rfl rfl rfl rfl zc_516 (fun _ => GR_nil) (fun b4 => ?_)
  refine GT_nil ?_;refine GE_seq ?_;refine GE_plain (.st 0 (.st 1 (.st 2 (.st 3 (.st 4 (.st 5 (.st 6 (.ld 7 [] (.ld 8 [] .nil))))))))) rfl ?_;refine GT_st rfl rfl rfl rfl (V_move rfl rfl) ?_;refine GT_st rfl rfl rfl rfl (V_nilCheck rfl rfl) ?_;refine GT_st rfl rfl rfl rfl (V_field rfl rfl fo_509_1) ?_;refine GT_st rfl rfl rfl rfl (V_load rfl rfl ag_255 (CellAt.old (hb.cell rfl) (noM _))) ?_;refine GT_st rfl rfl rfl rfl (V_move rfl rfl) ?_;refine GT_st rfl rfl rfl rfl (V_index rfl rfl rfl Tryz.underlying255 sz_261 (k := 0) rfl (by decide) rfl) ?_;refine GT_st rfl rfl rfl rfl (V_build (vs := [_, _, _]) rfl rfl zc_516 pl_516 sa_516 rfl) ?_;refine GT_alloc rfl rfl rfl rfl rfl zc_516 (fun _ => GR_nil) (fun b5 => ?_)
  refine GT_store (vs := [_, _, _]) (l' := [_, _, _]) rfl rfl rfl rfl rfl rfl rfl sz_516 rfl rfl (Nat.le_of_ble_eq_true rfl) rfl (GR_nil) ?_;refine GT_nil ?_;refine GE_seq ?_;refine GE_seq ?_;refine GE_slots (L' := [(0, _), (1, _), (4, _), (5, _)]) ⟨rfl, rfl, rfl, rfl, trivial⟩ ?_;refine GE_plain (.st 0 (.st 1 .nil)) rfl ?_;refine GT_st rfl rfl rfl rfl (V_move rfl rfl) ?_;refine GT_st rfl rfl rfl rfl (V_isF (V_gtr rfl rfl rfl) (by decide)) ?_;refine GT_nil ?_;refine GE_cond_f rfl ?_;refine GE_skip ?_;refine GE_seq ?_;refine GE_seq ?_;refine GE_plain (.st 0 (.st 1 (.st 2 (.st 3 (.st 4 (.st 5 (.st 6 (.st 7 .nil)))))))) rfl ?_;refine GT_st rfl rfl rfl rfl (V_move rfl rfl) ?_;refine GT_st rfl rfl rfl rfl (V_add rfl rfl rfl (wrap_i64 (by omega))) ?_;refine GT_st rfl rfl rfl rfl (V_move rfl rfl) ?_;refine GT_st rfl rfl rfl rfl (V_nilCheck rfl rfl) ?_;refine GT_st rfl rfl rfl rfl (V_field rfl rfl fo_509_1) ?_;refine GT_st rfl rfl rfl rfl (V_load rfl rfl ag_255 (CellAt.old (hb.cell rfl) (noM _))) ?_;refine GT_st rfl rfl rfl rfl (V_len rfl Tryz.underlying255 rfl) ?_;refine GT_st rfl rfl rfl rfl (V_isT (V_lss rfl rfl rfl) (by decide)) ?_;refine GT_nil ?_;refine GE_cond_t rfl ?_;refine GE_slots (L' := [(0, _), (1, _), (4, _), (5, _)]) ⟨rfl, rfl, rfl, rfl, trivial⟩ ?_;refine GE_plain (.st 0 (.st 1 (.st 2 (.st 3 (.st 4 (.st 5 (.st 6 (.st 7 (.ld 8 [] .nil))))))))) rfl ?_;refine GT_st rfl rfl rfl rfl (V_move rfl rfl) ?_;refine GT_st rfl rfl rfl rfl (V_nilCheck rfl rfl) ?_;refine GT_st rfl rfl rfl rfl (V_field rfl rfl fo_509_1) ?_;refine GT_st rfl rfl rfl rfl (V_load rfl rfl ag_255 (CellAt.old (hb.cell rfl) (noM _))) ?_;refine GT_st rfl rfl rfl rfl (V_move rfl rfl) ?_;refine GT_st rfl rfl rfl rfl (V_add rfl rfl rfl (wrap_i64 (by omega))) ?_
  refine GT_st rfl rfl rfl rfl (V_index rfl rfl rfl Tryz.underlying255 sz_261 (k := 1) rfl (by decide) rfl) ?_;refine GT_st rfl rfl rfl rfl (V_field rfl rfl fo_516_2) ?_;refine GT_store (vs := [_]) (l' := [_, _, _]) rfl rfl rfl rfl rfl rfl rfl sz_514 rfl rfl (Nat.le_of_ble_eq_true rfl) rfl (GR_nil) ?_;refine GT_nil ?_;refine GE_seq ?_;refine GE_slots (L' := [(4, _), (5, _)]) ⟨rfl, rfl, trivial⟩ ?_;refine GE_plain (.st 0 (.ld 1 [] .nil)) rfl ?_;refine GT_st rfl rfl rfl rfl (V_loadN (vs := [_, _, _]) rfl rfl ag_516 sz_516 rfl (CellsAt.item rfl)) ?_;refine GT_store (vs := [_, _, _]) (l' := [_, _, _]) rfl rfl rfl rfl rfl rfl rfl sz_516 rfl rfl (Nat.le_of_ble_eq_true rfl) rfl (GR_nil) ?_;refine GT_nil ?_;refine GE_ret Tryz.func329 ⟨_, rfl, fun w m => run_loadVar_agg (vs := [_, _, _]) ag_516 sz_516 rfl (fun j v hj => CellsAt.item rfl j v hj w m)⟩ (fun w hw => ⟨?_, hw.nil⟩)
  rfl
theorem C_gat1 (hb : BlkAt w bt (trkC (some ⟨g, 0, none⟩) c r 1000) 509) : Con0 Tryz.prog 329 [ptr bt 0, I 1] w (.agg #[ptr g 0, ptr g 2, ptr g 4]) := by
  refine Ret_of (vs := [_, _]) hm none' Tryz.func329 rfl Tryz.ntmps329 rfl ?_
  dsimp only [slotsOf]
  refine GE_seq ?_;refine GE_plain (.ld 0 [] .nil) rfl ?_;refine GT_alloc rfl rfl rfl rfl rfl zc_516 (fun _ => GR_nil) (fun b4 => ?_)
  refine GT_nil ?_;refine GE_seq ?_;refine GE_plain (.st 0 (.st 1 (.st 2 (.st 3 (.st 4 (.st 5 (.st 6 (.ld 7 [] (.ld 8 [] .nil))))))))) rfl ?_;refine GT_st rfl rfl rfl rfl (V_move rfl rfl) ?_;refine GT_st rfl rfl rfl rfl (V_nilCheck rfl rfl) ?_;refine GT_st rfl rfl rfl rfl (V_field rfl rfl fo_509_1) ?_;refine GT_st rfl rfl rfl rfl (V_load rfl rfl ag_255 (CellAt.old (hb.cell rfl) (noM _))) ?_;refine GT_st rfl rfl rfl rfl (V_move rfl rfl) ?_;refine GT_st rfl rfl rfl rfl (V_index rfl rfl rfl Tryz.underlying255 sz_261 (k := 1) rfl (by decide) rfl) ?_;refine GT_st rfl rfl rfl rfl (V_build (vs := [_, _, _]) rfl rfl zc_516 pl_516 sa_516 rfl) ?_;refine GT_alloc rfl rfl rfl rfl rfl zc_516 (fun _ => GR_nil) (fun b5 => ?_)
  refine GT_store (vs := [_, _, _]) (l' := [_, _, _]) rfl rfl rfl rfl rfl rfl rfl sz_516 rfl rfl (Nat.le_of_ble_eq_true rfl) rfl (GR_nil) ?_;refine GT_nil ?_;refine GE_seq ?_;refine GE_seq ?_;refine GE_slots (L' := [(0, _), (1, _), (4, _), (5, _)]) ⟨rfl, rfl, rfl, rfl, trivial⟩ ?_;refine GE_plain (.st 0 (.st 1 .nil)) rfl ?_;refine GT_st rfl rfl rfl rfl (V_move rfl rfl) ?_;refine GT_st rfl rfl rfl rfl (V_isT (V_gtr rfl rfl rfl) (by decide)) ?_;refine GT_nil ?_;refine GE_cond_t rfl ?_;refine GE_plain (.st 0 (.st 1 (.st 2 (.st 3 (.st 4 (.st 5 (.st 6 (.st 7 (.ld 8 [] .nil))))))))) rfl ?_;refine GT_st rfl rfl rfl rfl (V_move rfl rfl) ?_;refine GT_st rfl rfl rfl rfl (V_nilCheck rfl rfl) ?_;refine GT_st rfl rfl rfl rfl (V_field rfl rfl fo_509_1) ?_;refine GT_st rfl rfl rfl rfl (V_load rfl rfl ag_255 (CellAt.old (hb.cell rfl) (noM _))) ?_;refine GT_st rfl rfl rfl rfl (V_move rfl rfl) ?_;refine GT_st rfl rfl rfl rfl (V_sub rfl rfl rfl (wrap_i64 (by omega))) ?_;refine GT_st rfl rfl rfl rfl (V_index rfl rfl rfl Tryz.underlying255 sz_261 (k := 0) rfl (by decide) rfl) ?_;refine GT_st rfl rfl rfl rfl (V_field rfl rfl fo_516_0) ?_;refine GT_store (vs := [_]) (l' := [_, _, _]) rfl rfl rfl rfl rfl rfl rfl sz_514 rfl rfl (Nat.le_of_ble_eq_true rfl) rfl (GR_nil) ?_;refine GT_nil ?_;refine GE_seq ?_;refine GE_seq ?_;refine GE_slots (L' := [(0, _), (1, _), (4, _), (5, _)]) ⟨rfl, rfl, rfl, rfl, trivial⟩ ?_;refine GE_plain (.st 0 (.st 1 (.st 2 (.st 3 (.st 4 (.st 5 (.st 6 (.st 7 .nil)))))))) rfl ?_;refine GT_st rfl rfl rfl rfl (V_move rfl rfl) ?_;refine GT_st rfl rfl rfl rfl (V_add rfl rfl rfl (wrap_i64 (by omega))) ?_;refine GT_st rfl rfl rfl rfl (V_move rfl rfl) ?_;refine GT_st rfl rfl rfl rfl (V_nilCheck rfl rfl) ?_;refine GT_st rfl rfl rfl rfl (V_field rfl rfl fo_509_1) ?_
  refine GT_st rfl rfl rfl rfl (V_load rfl rfl ag_255 (CellAt.old (hb.cell rfl) (noM _))) ?_;refine GT_st rfl rfl rfl rfl (V_len rfl Tryz.underlying255 rfl) ?_;refine GT_st rfl rfl rfl rfl (V_isT (V_lss rfl rfl rfl) (by decide)) ?_;refine GT_nil ?_;refine GE_cond_t rfl ?_;refine GE_slots (L' := [(0, _), (1, _), (4, _), (5, _)]) ⟨rfl, rfl, rfl, rfl, trivial⟩ ?_;refine GE_plain (.st 0 (.st 1 (.st 2 (.st 3 (.st 4 (.st 5 (.st 6 (.st 7 (.ld 8 [] .nil))))))))) rfl ?_;refine GT_st rfl rfl rfl rfl (V_move rfl rfl) ?_;refine GT_st rfl rfl rfl rfl (V_nilCheck rfl rfl) ?_;refine GT_st rfl rfl rfl rfl (V_field rfl rfl fo_509_1) ?_;refine GT_st rfl rfl rfl rfl (V_load rfl rfl ag_255 (CellAt.old (hb.cell rfl) (noM _))) ?_;refine GT_st rfl rfl rfl rfl (V_move rfl rfl) ?_;refine GT_st rfl rfl rfl rfl (V_add rfl rfl rfl (wrap_i64 (by omega))) ?_;refine GT_st rfl rfl rfl rfl (V_index rfl rfl rfl Tryz.underlying255 sz_261 (k := 2) rfl (by decide) rfl) ?_;refine GT_st rfl rfl rfl rfl (V_field rfl rfl fo_516_2) ?_;refine GT_store (vs := [_]) (l' := [_, _, _]) rfl rfl rfl rfl rfl rfl rfl sz_514 rfl rfl (Nat.le_of_ble_eq_true rfl) rfl (GR_nil) ?_;refine GT_nil ?_;refine GE_seq ?_;refine GE_slots (L' := [(4, _), (5, _)]) ⟨rfl, rfl, trivial⟩ ?_;refine GE_plain (.st 0 (.ld 1 [] .nil)) rfl ?_;refine GT_st rfl rfl rfl rfl (V_loadN (vs := [_, _, _]) rfl rfl ag_516 sz_516 rfl (CellsAt.item rfl)) ?_;refine GT_store (vs := [_, _, _]) (l' := [_, _, _]) rfl rfl rfl rfl rfl rfl rfl sz_516 rfl rfl (Nat.le_of_ble_eq_true rfl) rfl (GR_nil) ?_;refine GT_nil ?_;refine GE_ret Tryz.func329 ⟨_, rfl, fun w m => run_loadVar_agg (vs := [_, _, _]) ag_516 sz_516 rfl (fun j v hj => CellsAt.item rfl j v hj w m)⟩ (fun w hw => ⟨?_, hw.nil⟩)
  rfl
theorem C_gat2 (hb : BlkAt w bt (trkC (some ⟨g, 0, none⟩) c r 1000) 509) : Con0 Tryz.prog 329 [ptr bt 0, I 2] w (.agg #[ptr g 2, ptr g 4, .pointer none]) := by
  refine Ret_of (vs := [_, _]) hm none' Tryz.func329 rfl Tryz.ntmps329 rfl ?_
  dsimp only [slotsOf]
  refine GE_seq ?_;refine GE_plain (.ld 0 [] .nil) rfl ?_;refine GT_alloc rfl rfl rfl rfl rfl zc_516 (fun _ => GR_nil) (fun b4 => ?_)
  refine GT_nil ?_;refine GE_seq ?_;refine GE_plain (.st 0 (.st 1 (.st 2 (.st 3 (.st 4 (.st 5 (.st 6 (.ld 7 [] (.ld 8 [] .nil))))))))) rfl ?_;refine GT_st rfl rfl rfl rfl (V_move rfl rfl) ?_;refine GT_st rfl rfl rfl rfl (V_nilCheck rfl rfl) ?_;refine GT_st rfl rfl rfl rfl (V_field rfl rfl fo_509_1) ?_;refine GT_st rfl rfl rfl rfl (V_load rfl rfl ag_255 (CellAt.old (hb.cell rfl) (noM _))) ?_;refine GT_st rfl rfl rfl rfl (V_move rfl rfl) ?_;refine GT_st rfl rfl rfl rfl (V_index rfl rfl rfl Tryz.underlying255 sz_261 (k := 2) rfl (by decide) rfl) ?_;refine GT_st rfl rfl rfl rfl (V_build (vs := [_, _, _]) rfl rfl zc_516 pl_516 sa_516 rfl) ?_;refine GT_alloc rfl rfl rfl rfl rfl zc_516 (fun _ => GR_nil) (fun b5 => ?_)
  refine GT_store (vs := [_, _, _]) (l' := [_, _, _]) rfl rfl rfl rfl rfl rfl rfl sz_516 rfl rfl (Nat.le_of_ble_eq_true rfl) rfl (GR_nil) ?_;refine GT_nil ?_;refine GE_seq ?_;refine GE_seq ?_;refine GE_slots (L' := [(0, _), (1, _), (4, _), (5, _)]) ⟨rfl, rfl, rfl, rfl, trivial⟩ ?_;refine GE_plain (.st 0 (.st 1 .nil)) rfl ?_;refine GT_st rfl rfl rfl rfl (V_move rfl rfl) ?_;refine GT_st rfl rfl rfl rfl (V_isT (V_gtr rfl rfl rfl) (by decide)) ?_;refine GT_nil ?_;refine GE_cond_t rfl ?_;refine GE_plain (.st 0 (.st 1 (.st 2 (.st 3 (.st 4 (.st 5 (.st 6 (.st 7 (.ld 8 [] .nil))))))))) rfl ?_;refine GT_st rfl rfl rfl rfl (V_move rfl rfl) ?_;refine GT_st rfl rfl rfl rfl (V_nilCheck rfl rfl) ?_;refine GT_st rfl rfl rfl rfl (V_field rfl rfl fo_509_1) ?_;refine GT_st rfl rfl rfl rfl (V_load rfl rfl ag_255 (CellAt.old (hb.cell rfl) (noM _))) ?_;refine GT_st rfl rfl rfl rfl (V_move rfl rfl) ?_;refine GT_st rfl rfl rfl rfl (V_sub rfl rfl rfl (wrap_i64 (by omega))) ?_;refine GT_st rfl rfl rfl rfl (V_index rfl rfl rfl Tryz.underlying255 sz_261 (k := 1) rfl (by decide) rfl) ?_;refine GT_st rfl rfl rfl rfl (V_field rfl rfl fo_516_0) ?_;refine GT_store (vs := [_]) (l' := [_, _, _]) rfl rfl rfl rfl rfl rfl rfl sz_514 rfl rfl (Nat.le_of_ble_eq_true rfl) rfl (GR_nil) ?_;refine GT_nil ?_;refine GE_seq ?_;refine GE_seq ?_;refine GE_slots (L' := [(0, _), (1, _), (4, _), (5, _)]) ⟨rfl, rfl, rfl, rfl, trivial⟩ ?_;refine GE_plain (.st 0 (.st 1 (.st 2 (.st 3 (.st 4 (.st 5 (.st 6 (.st 7 .nil)))))))) rfl ?_;refine GT_st rfl rfl rfl rfl (V_move rfl rfl) ?_;refine GT_st rfl rfl rfl rfl (V_add rfl rfl rfl (wrap_i64 (by omega))) ?_;refine GT_st rfl rfl rfl rfl (V_move rfl rfl) ?_;refine GT_st rfl rfl rfl rfl (V_nilCheck rfl rfl) ?_;refine GT_st rfl rfl rfl rfl (V_field rfl rfl fo_509_1) ?_
  refine GT_st rfl rfl rfl rfl (V_load rfl rfl ag_255 (CellAt.old (hb.cell rfl) (noM _))) ?_;refine GT_st rfl rfl rfl rfl (V_len rfl Tryz.underlying255 rfl) ?_;refine GT_st rfl rfl rfl rfl (V_isF (V_lss rfl rfl rfl) (by decide)) ?_;refine GT_nil ?_;refine GE_cond_f rfl ?_;refine GE_skip ?_;refine GE_seq ?_;refine GE_slots (L' := [(4, _), (5, _)]) ⟨rfl, rfl, trivial⟩ ?_;refine GE_plain (.st 0 (.ld 1 [] .nil)) rfl ?_;refine GT_st rfl rfl rfl rfl (V_loadN (vs := [_, _, _]) rfl rfl ag_516 sz_516 rfl (CellsAt.item rfl)) ?_;refine GT_store (vs := [_, _, _]) (l' := [_, _, _]) rfl rfl rfl rfl rfl rfl rfl sz_516 rfl rfl (Nat.le_of_ble_eq_true rfl) rfl (GR_nil) ?_;refine GT_nil ?_;refine GE_ret Tryz.func329 ⟨_, rfl, fun w m => run_loadVar_agg (vs := [_, _, _]) ag_516 sz_516 rfl (fun j v hj => CellsAt.item rfl j v hj w m)⟩ (fun w hw => ⟨?_, hw.nil⟩)
  rfl
theorem C_gat {k : Nat} (hk : k < 3) (hb : BlkAt w bt (trkC (some ⟨g, 0, none⟩) c r 1000) 509) : Con0 Tryz.prog 329 [ptr bt 0, I k] w (nrV g k) := by
  rcases (show k = 0 ∨ k = 1 ∨ k = 2 by omega) with rfl | rfl | rfl
  · exact C_gat0 hb
  · exact C_gat1 hb
  · exact C_gat2 hb
end
end Go.Proofs.YtpbflnfcgcldkaaGreatDoor.Side
/- The fault of the example's groove at a radius, walked. -/
namespace Go.Proofs.YtpbflnfcgcldkaaGreatDoor.Side
open Go.Sx Go.Proofs Go.RowKit
theorem sh_trans {w w1 w2 : World} {H1 H2 : Items} (h1 : SH w none' H1 w1) (h2 : SH w1 none' H2 w2) : SH w none' [] w2 :=
  ⟨h2.os.trans h1.os, h2.tape.trans h1.tape, h2.output.trans h1.output, Nat.le_trans h1.size h2.size, fun k hk hM => (h2.old k (Nat.lt_of_lt_of_le hk h1.size) (fun q => q)).trans (h1.old k hk hM), by simp, by simp⟩
theorem RulOk.sh {w w1 : World} {bt : Nat} {vb vh va : Value} {st : Bool} {H1 : Items} (h : RulOk w bt vb vh va st) (m : SH w none' H1 w1) : RulOk w1 bt vb vh va st :=
  ⟨fun w' _ m2 => h.thin w' _ (sh_trans m m2), fun w' _ m2 => h.wide w' _ (sh_trans m m2), fun w' _ m2 => h.steep w' _ (sh_trans m m2), fun w' _ m2 => h.sudden w' _ (sh_trans m m2), fun q w' _ m2 => h.sharp q w' _ (sh_trans m m2)⟩
def stK (r : Int) (k : Nat) : Bool := decide (1 ≤ k) && decide (r ≤ 31830)
section
variable {w w0 : World} {A : Option Addr} {c g bt b1 lp k : Nat} {r : Int}
theorem ptAt_of (h : RdL w 2 eP2 (some ⟨g, 0, none⟩) ptE) : PtAt w g 0 (-400) 400 ∧ PtAt w g 2 (-200) 600 ∧ PtAt w g 4 (-400) 400 := by
  have h0 := h.2 0 (-400, 400) rfl
  have h1 := h.2 1 (-200, 600) rfl
  have h2 := h.2 2 (-400, 400) rfl
  exact ⟨⟨h0 0 _ rfl, h0 1 _ rfl⟩, ⟨h1 0 _ rfl, h1 1 _ rfl⟩, ⟨h2 0 _ rfl, h2 1 _ rfl⟩⟩
theorem steep_iff {s : Int} : s = 0 ∨ s = 200 → (0 ≤ r) → decide (710000 * r < 113000000 * s) = (decide (s = 200) && decide (r ≤ 31830)) := by
  intro h hr
  rcases h with rfl | rfl
  · rw [decide_eq_false (by omega)]; rfl
  · rw [show decide ((200 : Int) = 200) = true from rfl, Bool.true_and]
    exact decide_eq_decide.2 (by omega)
theorem arc_ge {r : Int} (h : 31831 ≤ r) : ¬ 710 * r * (710 * r) / 12769000000 < 400 * 100 := by
  have h1 : 22600010 ≤ 710 * r := by omega
  have h2 := Int.mul_le_mul h1 h1 (by decide) (by omega)
  omega
theorem rulOk (hb : BlkAt w bt (trkC A c r 1000) 509) (hP : RdL w 2 eP2 (some ⟨g, 0, none⟩) ptE) (hr : 0 ≤ r ∧ r ≤ 4194304) (hk : k < 3) : ∃ pb ph pa, nrV g k = .agg #[.pointer pb, .pointer ph, .pointer pa] ∧ RulOk w bt (.pointer pb) (.pointer ph) (.pointer pa) (stK r k) := by
  obtain ⟨p0, p1, p2⟩ := ptAt_of hP
  have ha : ∀ z : Int, z = 0 → ¬ 710 * r * (710 * r) / 12769000000 < z * 100 := fun z hz => by
    have := (arc_bd hr).1
    subst hz; omega
  rcases (show k = 0 ∨ k = 1 ∨ k = 2 by omega) with rfl | rfl | rfl
  · refine ⟨_, _, _, rfl, fun w' H m => C_thin (p0.sh m) (by decide) (hb.sh m) (by decide), fun w' H m => C_wide (p0.sh m) (by decide) (hb.sh m) (by decide), fun w' H m => ?_, fun w' H m => C_sudden (fun _ _ _ => C_bend0) (hb.sh m) (by decide), fun _ w' H m => ?_⟩
    · have := C_steep (A := A) (c := c) (fun _ _ _ => C_step0) (hb.sh m) hr (by decide) (vh := ptr g 0) (va := ptr g 2)
      rw [steep_iff (.inl rfl) hr.1] at this
      exact this
    · have := C_sharp (A := A) (c := c) (fun _ _ _ => C_bend0) (hb.sh m) hr (by decide) (vh := ptr g 0) (va := ptr g 2)
      rw [decide_eq_false (ha 0 rfl)] at this
      exact this
  · refine ⟨_, _, _, rfl, fun w' H m => C_thin (p1.sh m) (by decide) (hb.sh m) (by decide), fun w' H m => C_wide (p1.sh m) (by decide) (hb.sh m) (by decide), fun w' H m => ?_, fun w' H m => C_sudden (bd := 400) (fun _ _ m2 => C_bend2 (p0.sh (sh_trans m m2)) (p1.sh (sh_trans m m2)) (p2.sh (sh_trans m m2)) (by decide) (by decide) (by decide)) (hb.sh m) (by decide), fun q w' H m => ?_⟩
    · have := C_steep (A := A) (c := c) (s := 200) (fun _ _ m2 => C_step2 (va := ptr g 4) (p0.sh (sh_trans m m2)) (p1.sh (sh_trans m m2)) (by decide) (by decide)) (hb.sh m) hr (by decide)
      rw [steep_iff (.inr rfl) hr.1] at this
      exact this
    · have := C_sharp (A := A) (c := c) (bd := 400) (fun _ _ m2 => C_bend2 (p0.sh (sh_trans m m2)) (p1.sh (sh_trans m m2)) (p2.sh (sh_trans m m2)) (by decide) (by decide) (by decide)) (hb.sh m) hr (by decide)
      rw [decide_eq_false (arc_ge (r := r) (by have q2 : 31830 < r := (by simpa [stK] using q); omega))] at this
      exact this
  · refine ⟨_, _, _, rfl, fun w' H m => C_thin (p2.sh m) (by decide) (hb.sh m) (by decide), fun w' H m => C_wide (p2.sh m) (by decide) (hb.sh m) (by decide), fun w' H m => ?_, fun w' H m => C_sudden (fun _ _ _ => C_bendN) (hb.sh m) (by decide), fun _ w' H m => ?_⟩
    · have := C_steep (A := A) (c := c) (s := 200) (fun _ _ m2 => C_step2 (va := .pointer none) (p1.sh (sh_trans m m2)) (p2.sh (sh_trans m m2)) (by decide) (by decide)) (hb.sh m) hr (by decide)
      rw [steep_iff (.inr rfl) hr.1] at this
      exact this
    · have := C_sharp (A := A) (c := c) (fun _ _ _ => C_bendN (g := g) (q0 := 2) (vh := ptr g 4)) (hb.sh m) hr (by decide)
      rw [decide_eq_false (ha 0 rfl)] at this
      exact this
theorem C_gall : Con Tryz.prog 311 [ptr bt 0] w (fun _ : Nat => True) (fun b => .func (.func 328) #[] #[ptr b 0]) (fun b => [(b, blk [ptr bt 0] 479)]) := by
  refine Ret_of (vs := [_]) hm none' Tryz.func311 rfl Tryz.ntmps311 rfl ?_
  dsimp only [slotsOf]
  refine GE_seq ?_;refine GE_plain (.ld 0 [] (.st 1 .nil)) rfl ?_;refine GT_box (z := [_]) rfl rfl rfl rfl rfl rfl rfl (fun _ => GR_nil) (fun b1 => ?_)
  refine GT_st rfl rfl rfl rfl (V_assign rfl rfl) ?_;refine GT_nil ?_;refine GE_seq ?_;refine GE_plain (.st 0 (.st 1 .nil)) rfl ?_;refine GT_st rfl rfl rfl rfl (V_makeFunc rfl rfl rfl) ?_;refine GT_st rfl rfl rfl rfl (V_assign rfl rfl) ?_;refine GT_nil ?_;refine GE_ret Tryz.func311 rfl (fun w hw => ?_)
  exact ⟨_, trivial, rfl, hw.hs (C := cx Tryz.prog hm 0 0 _ none' fun _ _ => True) (HS.cons rfl HS.nil)⟩
set_option maxRecDepth 10000 in
theorem C_gall1 {Q : Nat → Items → Prop} {Qx : Items → Prop} {J G : Items} (hb : BlkAt w0 bt (trkC (some ⟨g, 0, none⟩) c r 1000) 509)
    (hY : ∀ k J, k < 3 → Q k J → ∀ G, YieldTo Tryz.prog w0 none' lp [I k, nrV g k] (J ++ G) fun v H' => ∃ J', H' = J' ++ G ∧ (v = .bool true ∧ Q (k + 1) J' ∨ v = .bool false ∧ Qx J'))
    (hQ : Q 0 J) (m : SH w0 none' (J ++ ((b1, blk [ptr bt 0] 479) :: G)) w) :
    Ret Tryz.prog 328 [.func (.yield lp) #[] #[], ptr b1 0].toArray w fun _ w' => ∃ J', (Q 3 J' ∨ Qx J') ∧ SH w0 none' (J' ++ G) w' := by
  refine Ret_ofH (vs := [_, _]) hm none' Tryz.func328 rfl Tryz.ntmps328 rfl m ?_
  dsimp only [slotsOf]
  refine GE_seq ?_;refine GE_plain (.st 0 (.st 1 (.st 2 (.st 3 (.st 4 (.st 5 .nil)))))) rfl ?_;refine GT_st rfl rfl rfl rfl (V_load rfl rfl ag_479 (CellAt.item rfl)) ?_;refine GT_st rfl rfl rfl rfl (V_nilCheck rfl rfl) ?_;refine GT_st rfl rfl rfl rfl (V_field rfl rfl fo_509_1) ?_;refine GT_st rfl rfl rfl rfl (V_load rfl rfl ag_255 (CellAt.old (hb.cell rfl) (noM _))) ?_;refine GT_st rfl rfl rfl rfl (V_len rfl Tryz.underlying255 rfl) ?_;refine GT_st rfl rfl rfl rfl (V_move rfl rfl) ?_;refine GT_nil ?_;refine GE_block ?_;refine GE_to (GE_loop (ι := Nat × Items) (fun z => 3 - z.1) (fun z => [(0, .func (.yield lp) #[] #[]), (1, ptr b1 0), (8, I 3), (9, I z.1)]) (fun z => z.2 ++ ((b1, blk [ptr bt 0] 479) :: G)) (fun z => z.1 ≤ 3 ∧ Q z.1 z.2) ?_ (0, J) ?_) ⟨rfl, rfl, rfl, rfl, trivial⟩ (HS.chunk (HS.cons rfl HS.last))
  · rintro ⟨k, J1⟩ ⟨hk, hQ1⟩ ih; dsimp only at hk hQ1 ih ⊢
    refine GE_seq ?_;refine GE_plain (.st 0 .nil) rfl ?_;refine GT_st rfl rfl rfl rfl (V_lss rfl rfl rfl) ?_;refine GT_nil ?_;refine GE_seq ?_;refine GE_cond rfl (fun q1 => ?_) (fun q1 => ?_)
    · have hk3 : k < 3 := (by omega)
      refine GE_skip ?_;refine GE_seq ?_;refine GE_block ?_;refine GE_seq ?_;refine GE_plain (.st 0 (.st 1 .nil)) rfl ?_;refine GT_st rfl rfl rfl rfl (V_move rfl rfl) ?_;refine GT_st rfl rfl rfl rfl (V_assign rfl rfl) ?_;refine GT_nil ?_;refine GE_seq ?_;refine GE_plain (.st 0 (.st 1 (.st 2 (.st 3 (.ld 4 [] (.ld 5 [] (.st 6 .nil))))))) rfl ?_;refine GT_st rfl rfl rfl rfl (V_move rfl rfl) ?_;refine GT_st rfl rfl rfl rfl (V_move rfl rfl) ?_;refine GT_st rfl rfl rfl rfl (V_load rfl rfl ag_479 (CellAt.item rfl)) ?_;refine GT_st rfl rfl rfl rfl (V_move rfl rfl) ?_;refine GT_call0 rfl rfl rfl rfl rfl rfl rfl rfl rn_329 (fun w hw => C_gat hk3 (hb.sh hw)) (GR_nil) ?_;refine GT_yield rfl rfl rfl rfl rfl rfl rfl (YieldTo.chunk (hY k J1 hk3 hQ1 _)) (fun _ _ _ => GR_nil) (fun v H' hR => ?_)
      rcases hR with ⟨J2, rfl, ⟨rfl, hQ2⟩ | ⟨rfl, hX⟩⟩
      · refine GT_st rfl rfl rfl rfl (V_notB rfl rfl) ?_;refine GT_nil ?_;refine GE_cond_f rfl ?_;refine GE_skip ?_;refine GE_inBlock ?_;refine GE_slots (L' := [(0, _), (1, _), (8, _), (9, _)]) ⟨rfl, rfl, rfl, rfl, trivial⟩ ?_;refine GE_plain (.st 0 (.ld 1 [] .nil)) rfl ?_;refine GT_st rfl rfl rfl rfl (V_add rfl rfl rfl (wrap_i64 (by omega))) ?_;refine GT_ldv rfl rfl rfl rfl rfl (V_move rfl rfl) (GR_nil) ?_;refine GT_nil ?_
        exact GE_to (ih (k + 1, J2) ⟨by dsimp only; omega, hQ2⟩ (by dsimp only; omega)) ⟨rfl, rfl, rfl, rfl, trivial⟩ (HS.chunk (HS.cons rfl HS.last))
      · refine GT_st rfl rfl rfl rfl (V_notB rfl rfl) ?_;refine GT_nil ?_;refine GE_cond_t rfl ?_;refine GE_ret Tryz.func328 rfl (fun w hw => ?_)
        first | exact ⟨J2, .inr hX, hw.hs (C := cx Tryz.prog hm 0 0 w0 none' fun _ _ => True) (HS.chunk HS.last)⟩ | exact ⟨J1, .inl hQ1, hw.hs (C := cx Tryz.prog hm 0 0 w0 none' fun _ _ => True) (HS.chunk HS.last)⟩
    · obtain rfl : k = 3 := (by omega)
      refine GE_exit rfl ?_;refine GE_end Tryz.func328 rfl (fun w hw => ?_)
      first | exact ⟨J2, .inr hX, hw.hs (C := cx Tryz.prog hm 0 0 w0 none' fun _ _ => True) (HS.chunk HS.last)⟩ | exact ⟨J1, .inl hQ1, hw.hs (C := cx Tryz.prog hm 0 0 w0 none' fun _ _ => True) (HS.chunk HS.last)⟩
  · exact ⟨Nat.zero_le _, hQ⟩
set_option maxRecDepth 20000 in
theorem C_fault (hb : BlkAt w bt (trkC (some ⟨g, 0, none⟩) c r 1000) 509) (hP : RdL w 2 eP2 (some ⟨g, 0, none⟩) ptE) (hr : 0 ≤ r ∧ r ≤ 4194304) : Con0 Tryz.prog 282 [ptr bt 0] w (.tuple #[I (if r ≤ 31830 then 1 else 0), I (if r ≤ 31830 then 3 else 0)]) := by
  refine Ret_of (vs := [_]) hm none' Tryz.func282 rfl Tryz.ntmps282 rfl ?_
  dsimp only [slotsOf]
  refine GE_seq ?_;refine GE_plain (.ld 0 [] (.ld 1 [] (.ld 2 [] .nil))) rfl ?_;refine GT_box (z := [_]) rfl rfl rfl rfl rfl rfl rfl (fun _ => GR_nil) (fun b1 => ?_)
  refine GT_alloc rfl rfl rfl rfl rfl zc_3 (fun _ => GR_nil) (fun b2 => ?_)
  refine GT_alloc rfl rfl rfl rfl rfl zc_3 (fun _ => GR_nil) (fun b3 => ?_)
  refine GT_nil ?_;refine GE_seq ?_;refine GE_seq ?_;refine GE_plain (.st 0 (.ld 1 [] .nil)) rfl ?_;refine GT_st rfl rfl rfl rfl (V_load rfl rfl ag_479 (CellAt.item rfl)) ?_;refine GT_call rfl rfl rfl rfl rfl rfl rfl rfl rn_311 (fun w hw => C_gall) (fun _ _ => GR_nil) (fun ba _ => ?_)
  refine GT_nil ?_;refine GE_block ?_;refine GE_range rfl rfl rn_328 (fun T l5 q r0 hr0 hT hlk w hw => ?_)
  refine (C_gall1 (b1 := ba) (lp := l5) (J := (l5, .loop r0) :: (b1, blk [ptr bt 0] 479) :: (b2, blk [I 0] 3) :: (b3, blk [I 0] 3) :: []) (G := [(q, .deferred (some []))])
    (Q := fun k J => (1 < k → ¬ r ≤ 31830) ∧ J = (l5, .loop r0) :: (b1, blk [ptr bt 0] 479) :: (b2, blk [I 0] 3) :: (b3, blk [I 0] 3) :: [])
    (Qx := fun J => r ≤ 31830 ∧ J = (l5, .loop { r0 with state := .done, pending := some .ret }) :: (b2, blk [I 1] 3) :: (b3, blk [I 3] 3) :: [])
    hb ?_ ⟨fun q => by omega, rfl⟩ (hw.hs ((show HS _ _ ((l5, .loop r0) :: (b1, _) :: (b2, _) :: (b3, _) :: (ba, _) :: [(q, .deferred (some []))]) from HS.cons rfl (HS.cons rfl (HS.cons rfl (HS.cons rfl (HS.cons rfl (HS.cons rfl HS.nil)))))))) ).mono (fun v w' ⟨J', hQ', hw'⟩ => ?_)
  · rintro k J hk3 ⟨hq1, hJ⟩ G; subst hJ; subst hr0
    obtain ⟨pb, ph, pa, e, hR⟩ := rulOk hb hP hr hk3
    rw [e]
    refine yield_of inferInstance rfl rfl hT hlk rfl rfl hm ?_;refine GE_slots (L' := [(1, ptr b1 0), (2, ptr b2 0), (3, ptr b3 0), (9, I k), (10, .agg #[.pointer pb, .pointer ph, .pointer pa])]) ⟨rfl, rfl, rfl, rfl, rfl, trivial⟩ ?_;refine GE_seq ?_;refine GE_plain (.st 0 .nil) rfl ?_;refine GT_st rfl rfl rfl rfl (V_assign rfl rfl) ?_;refine GT_nil ?_;refine GE_plain (.ld 0 [] (.ld 1 [] .nil)) rfl ?_;refine GT_alloc rfl rfl rfl rfl rfl zc_516 (fun _ => GR_nil) (fun b5 => ?_)
    refine GT_store (vs := [_, _, _]) (l' := [_, _, _]) rfl rfl rfl rfl rfl rfl rfl sz_516 rfl rfl (Nat.le_of_ble_eq_true rfl) rfl (GR_nil) ?_;refine GT_nil ?_;refine GE_beginRound rfl ?_;refine GE_block ?_;refine GE_seq ?_;refine GE_plain (.st 0 (.st 1 (.ld 2 [] (.st 3 .nil)))) rfl ?_;refine GT_st rfl rfl rfl rfl (V_load rfl rfl ag_479 (CellAt.item rfl)) ?_;refine GT_st rfl rfl rfl rfl (V_loadN (vs := [_, _, _]) rfl rfl ag_516 sz_516 rfl (CellsAt.item rfl)) ?_;refine GT_call0 rfl rfl rfl rfl rfl rfl rfl rfl rn_312 (fun w hw => C_rule (hR.sh hw)) (GR_nil) ?_;refine GT_st rfl rfl rfl rfl (V_assign rfl rfl) ?_;refine GT_nil ?_;refine GE_seq ?_;refine GE_slots (L' := [(2, _), (3, _), (4, _), (6, _)]) ⟨rfl, rfl, rfl, rfl, trivial⟩ ?_;refine GE_plain (.st 0 (.st 1 .nil)) rfl ?_;refine GT_st rfl rfl rfl rfl (V_move rfl rfl) ?_;refine GT_st rfl rfl rfl rfl (V_gtr rfl rfl rfl) ?_;refine GT_nil ?_;refine GE_cond rfl (fun q2 => ?_) (fun q2 => ?_)
    · refine GE_seq ?_;refine GE_plain (.st 0 (.st 1 (.ld 2 [] (.ld 3 [] .nil)))) rfl ?_;refine GT_st rfl rfl rfl rfl (V_move rfl rfl) ?_;refine GT_st rfl rfl rfl rfl (V_move rfl rfl) ?_;refine GT_store (vs := [_]) (l' := [_]) rfl rfl rfl rfl rfl rfl rfl sz_3 rfl rfl (Nat.le_of_ble_eq_true rfl) rfl (GR_nil) ?_;refine GT_store (vs := [_]) (l' := [_]) rfl rfl rfl rfl rfl rfl rfl sz_3 rfl rfl (Nat.le_of_ble_eq_true rfl) rfl (GR_nil) ?_;refine GT_nil ?_
      have hst : stK r k = true := (by cases e2 : stK r k; (rw [e2] at q2; exact absurd q2 (by decide)); rfl)
      have hst2 : 1 ≤ k ∧ r ≤ 31830 := (by simpa [stK] using hst)
      have hk1 : k = 1 := (by by_cases e3 : 1 < k; exact absurd hst2.2 (hq1 e3); omega)
      subst hk1
      rw [if_pos hst]
      refine GE_leave (some .ret) rfl (fun w hw => ⟨_, ⟨_, rfl, .inr ⟨rfl, hst2.2, rfl⟩⟩, ?_⟩)
      exact hw.hs (HS.cons rfl (HS.cons rfl (HS.cons rfl (HS.last (I := G)))))
    · refine GE_skip ?_;refine GE_inBlock ?_;refine GE_leave none rfl (fun w hw => ⟨_, ⟨_, rfl, .inl ⟨rfl, fun q3 => ?_, rfl⟩⟩, ?_⟩)
      · by_cases e1 : r ≤ 31830
        · have : stK r k = true := by simp [stK, e1]; omega
          rw [if_pos this] at q2; exact absurd (by decide) q2
        · exact e1
      exact hw.hs (HS.cons rfl (HS.cons rfl (HS.cons rfl (HS.cons rfl (HS.last (I := G))))))
  · subst hr0
    rcases hQ' with ⟨hq3, rfl⟩ | ⟨hle, rfl⟩
    case inr =>
      refine ⟨_, [(b2, blk [I 1] 3), (b3, blk [I 3] 3)], ?_, hw'.hs (HS.cons rfl (HS.cons rfl (HS.cons rfl (HS.cons rfl HS.nil)))), ?_⟩
      · intro h; cases h
      refine GE_D (D' := dq [q]) ?_ rfl
      refine GE_retq Tryz.func282 ⟨_, _, ⟨_, rfl, fun w m => run_loadVar_one ag_3 (CellAt.item rfl w m)⟩, ⟨_, rfl, fun w m => run_loadVar_one ag_3 (CellAt.item rfl w m)⟩, rfl⟩ (fun w hw => ?_)
      rw [if_pos hle, if_pos hle]; exact ⟨rfl, hw.nil⟩
    refine ⟨_, [(b2, blk [I 0] 3), (b3, blk [I 0] 3)], ?_, hw'.hs (HS.cons rfl (HS.cons rfl (HS.cons rfl (HS.cons rfl HS.nil)))), ?_⟩
    · intro h; cases h
    refine GE_D (D' := dq [q]) ?_ rfl
    refine GE_inBlock ?_;refine GE_seq ?_;refine GE_slots (L' := [(2, _), (3, _)]) ⟨rfl, rfl, trivial⟩ ?_;refine GE_plain (.ld 0 [] (.ld 1 [] .nil)) rfl ?_;refine GT_store (vs := [_]) (l' := [_]) rfl rfl rfl rfl rfl rfl rfl sz_3 rfl rfl (Nat.le_of_ble_eq_true rfl) rfl (GR_nil) ?_;refine GT_store (vs := [_]) (l' := [_]) rfl rfl rfl rfl rfl rfl rfl sz_3 rfl rfl (Nat.le_of_ble_eq_true rfl) rfl (GR_nil) ?_;refine GT_nil ?_;refine GE_retq Tryz.func282 ⟨_, _, ⟨_, rfl, fun w m => run_loadVar_one ag_3 (CellAt.item rfl w m)⟩, ⟨_, rfl, fun w m => run_loadVar_one ag_3 (CellAt.item rfl w m)⟩, rfl⟩ (fun w hw => ⟨?_, hw.nil⟩)
    rw [if_neg (hq3 (by decide)), if_neg (hq3 (by decide))]
end
end Go.Proofs.YtpbflnfcgcldkaaGreatDoor.Side
/- The program's tables, asked once: which structs and arrays are of numbers alone. -/
namespace Go.Proofs.YtpbflnfcgcldkaaGreatDoor
open Go.Sx Go.Proofs
theorem is_261 : isStruct Tryz.prog 261 2 = true := by kernel_rfl
theorem is_287 : isStruct Tryz.prog 287 2 = true := by kernel_rfl
theorem is_293 : isStruct Tryz.prog 293 2 = true := by kernel_rfl
theorem is_421 : isStruct Tryz.prog 421 2 = true := by kernel_rfl
end Go.Proofs.YtpbflnfcgcldkaaGreatDoor
/- Folds, and the cells of a folded sheet, walked. -/
namespace Go.Proofs.YtpbflnfcgcldkaaGreatDoor.Slv
open Go.Sx Go.Proofs Go.RowKit
open Side (eN eN_len eN_one getD_memT)
section
variable {w : World} {A : Option Addr} {c fi : Nat} {cs : List Value}
end
end Go.Proofs.YtpbflnfcgcldkaaGreatDoor.Slv
/- The pages of a folded sheet, walked. -/
namespace Go.Proofs.YtpbflnfcgcldkaaGreatDoor.Slv
open Go.Sx Go.Proofs Go.RowKit
open Side (eN eN_len eN_one getD_memT)
abbrev growsC : List Value := [I 0, I 0, I 1, I 2, I 2, I 1]
def GrowsAt (w : World) : Prop := ∀ j v, growsC[j]? = some v → w.cell? ⟨1, j, none⟩ = some v
theorem GrowsAt.sh {w0 w : World} {H : Items} (h : GrowsAt w0) (m : SH w0 none' H w) : GrowsAt w := fun j v hv => m.cellOld (h j v hv) (fun q => q)
section
variable {w w0 : World} {A : Option Addr} {c b1 lp : Nat} {f : List Int}
end
end Go.Proofs.YtpbflnfcgcldkaaGreatDoor.Slv
/- Pages and Page, walked. -/
namespace Go.Proofs.YtpbflnfcgcldkaaGreatDoor.Slv
open Go.Sx Go.Proofs Go.RowKit
open Side (eN eN_len eN_one getD_memT sh_trans)
section
variable {w w0 : World} {A : Option Addr} {c b1 lp : Nat} {f : List Int}
variable {l : List Leaf} {p : Leaf → Bool} {fi : Nat} {cs : List Value}
end
end Go.Proofs.YtpbflnfcgcldkaaGreatDoor.Slv
/- Designs on sheets: how many sheets are enough, plain and walked. -/
namespace Go.Proofs.YtpbflnfcgcldkaaGreatDoor.Slv
open Go.Sx Go.Proofs Go.RowKit
open Side (eN eN_len eN_one getD_memT sh_trans)
def cd (n m : Int) : Int := (n + m - 1) / m
def plL (l : List Int) (m : Int) : List Int := l.map (cd · m)
def rsum (l : List Int) (m : Int) : Int := (plL l m).sum
structure Lst (l : List Int) (s n : Int) : Prop where
  lo : 1 ≤ n
  hi : n ≤ 1048576
  ok : rsum l n ≤ s
  least : ∀ m, 1 ≤ m → m < n → s < rsum l m
theorem Lst.uniq {l : List Int} {s n n' : Int} (h : Lst l s n) (h' : Lst l s n') : n = n' := by
  have h1 := h.lo; have h2 := h'.lo
  rcases (show n < n' ∨ n = n' ∨ n' < n by omega) with q | q | q
  · have := h'.least n h1 q; have := h.ok; omega
  · exact q
  · have := h.least n' h2 q; have := h'.ok; omega
section
variable {w w0 : World} {A : Option Addr} {c : Nat} {l : List Int}
variable {p : Int → Bool} {fi : Nat} {cs : List Value}
theorem C_Max (hr : RdL w 1 eN A l) (hl : 1 ≤ l.length ∧ l.length ≤ 1000000) : Con Tryz.prog 145 [.slice A l.length c] w (fun x : Int => x ∈ l ∧ ∀ y ∈ l, y ≤ x) (fun x => I x) (fun _ => []) := by
  have hl0 : 0 < l.length := hl.1
  refine Ret_of (vs := [_]) hm none' Tryz.func145 rfl Tryz.ntmps145 rfl ?_
  dsimp only [slotsOf]
  refine GE_seq ?_;refine GE_plain (.st 0 .nil) rfl ?_;refine GT_st rfl rfl rfl rfl (V_assign rfl rfl) ?_;refine GT_nil ?_;refine GE_seq ?_;refine GE_seq ?_;refine GE_plain (.st 0 (.st 1 (.st 2 .nil))) rfl ?_;refine GT_st rfl rfl rfl rfl (V_move rfl rfl) ?_;refine GT_st rfl rfl rfl rfl (V_len rfl Tryz.underlying43 rfl) ?_;refine GT_st rfl rfl rfl rfl (V_isF (V_lss rfl rfl rfl) (by omega)) ?_;refine GT_nil ?_;refine GE_cond_f rfl ?_;refine GE_skip ?_;refine GE_seq ?_;refine GE_slots (L' := [(0, _)]) ⟨rfl, trivial⟩ ?_;refine GE_plain (.st 0 (.st 1 (.st 2 (.st 3 .nil)))) rfl ?_;refine GT_st rfl rfl rfl rfl (V_move rfl rfl) ?_;refine GT_st rfl rfl rfl rfl (V_index (k := 0) rfl rfl rfl Tryz.underlying43 sz_2 rfl hl0 (hr.isSome hl0)) ?_;refine GT_st rfl rfl rfl rfl (V_load rfl rfl ag_2 (hr.at0 noM hl0 rfl)) ?_;refine GT_st rfl rfl rfl rfl (V_assign rfl rfl) ?_;refine GT_nil ?_;refine GE_seq ?_;refine GE_seq ?_;refine GE_plain (.st 0 .nil) rfl ?_;refine GT_st rfl rfl rfl rfl (V_assign rfl rfl) ?_;refine GT_nil ?_;refine GE_block ?_;refine GE_to (GE_loop (ι := Nat × Int) (fun z => l.length - z.1) (fun z => [(0, .slice A l.length c), (3, I z.2), (4, I z.1)]) (fun z => []) (fun z => (1 ≤ z.1 ∧ z.1 ≤ l.length) ∧ z.2 ∈ l ∧ ∀ j, j < z.1 → l.getD j default ≤ z.2) ?_ (1, l.getD 0 default) ?_) ⟨rfl, rfl, rfl, trivial⟩ HS.nil
  · rintro ⟨k, x⟩ ⟨⟨hk1, hk⟩, hm1, hall⟩ ih; dsimp only at hk1 hk hm1 hall ih ⊢
    refine GE_seq ?_;refine GE_seq ?_;refine GE_plain (.st 0 (.st 1 (.st 2 (.st 3 .nil)))) rfl ?_;refine GT_st rfl rfl rfl rfl (V_move rfl rfl) ?_;refine GT_st rfl rfl rfl rfl (V_move rfl rfl) ?_;refine GT_st rfl rfl rfl rfl (V_len rfl Tryz.underlying43 rfl) ?_;refine GT_st rfl rfl rfl rfl (V_lss rfl rfl rfl) ?_;refine GT_nil ?_;refine GE_cond rfl (fun q1 => ?_) (fun q1 => ?_)
    · have hkl : k < l.length := (by omega)
      refine GE_skip ?_;refine GE_seq ?_;refine GE_block ?_;refine GE_slots (L' := [(0, _), (3, _), (4, _)]) ⟨rfl, rfl, rfl, trivial⟩ ?_;refine GE_plain (.st 0 (.st 1 (.st 2 (.st 3 (.st 4 (.st 5 (.ld 6 [] .nil))))))) rfl ?_;refine GT_st rfl rfl rfl rfl (V_move rfl rfl) ?_;refine GT_st rfl rfl rfl rfl (V_move rfl rfl) ?_;refine GT_st rfl rfl rfl rfl (V_move rfl rfl) ?_;refine GT_st rfl rfl rfl rfl (V_index rfl rfl rfl Tryz.underlying43 sz_2 rfl hkl (hr.isSome hkl)) ?_;refine GT_st rfl rfl rfl rfl (V_load rfl rfl ag_2 (hr.at0 noM hkl rfl)) ?_;refine GT_st rfl rfl rfl rfl (V_max rfl rfl rfl) ?_;refine GT_ldv rfl rfl rfl rfl rfl (V_assign rfl rfl) (GR_nil) ?_;refine GT_nil ?_;refine GE_inBlock ?_;refine GE_slots (L' := [(0, _), (3, _), (4, _)]) ⟨rfl, rfl, rfl, trivial⟩ ?_;refine GE_plain (.st 0 (.st 1 (.ld 2 [] .nil))) rfl ?_;refine GT_st rfl rfl rfl rfl (V_move rfl rfl) ?_;refine GT_st rfl rfl rfl rfl (V_add rfl rfl rfl (wrap_i64 (by omega))) ?_;refine GT_ldv rfl rfl rfl rfl rfl (V_assign rfl rfl) (GR_nil) ?_;refine GT_nil ?_
      exact GE_to (ih (k + 1, max x (l.getD k default)) ⟨⟨by dsimp only; omega, by dsimp only; omega⟩, by dsimp only; rcases (show max x (l.getD k default) = x ∨ max x (l.getD k default) = l.getD k default by omega) with e | e <;> rw [e]; exact hm1; exact getD_memT hkl, fun j hj => by dsimp only at hj ⊢; by_cases e : j = k; (subst e; exact Int.le_max_right ..); exact Int.le_trans (hall j (by omega)) (Int.le_max_left ..)⟩ (by dsimp only; omega)) ⟨rfl, rfl, rfl, trivial⟩ HS.nil
    · obtain rfl : k = l.length := (by omega)
      refine GE_exit rfl ?_;refine GE_seq ?_;refine GE_slots (L' := [(3, _)]) ⟨rfl, trivial⟩ ?_;refine GE_plain (.st 0 (.st 1 .nil)) rfl ?_;refine GT_st rfl rfl rfl rfl (V_move rfl rfl) ?_;refine GT_st rfl rfl rfl rfl (V_assign rfl rfl) ?_;refine GT_nil ?_;refine GE_ret Tryz.func145 rfl (fun w hw => ?_)
      exact ⟨x, ⟨hm1, fun y hy => by obtain ⟨j, hj, rfl⟩ := List.mem_iff_getElem.1 hy; have := hall j hj; simpa [List.getD, hj] using this⟩, rfl, hw.nil⟩
  · exact ⟨⟨Nat.le_refl _, hl0⟩, getD_memT hl0, fun j hj => by obtain rfl : j = 0 := (by omega); exact Int.le_refl _⟩
end
end Go.Proofs.YtpbflnfcgcldkaaGreatDoor.Slv
/- Rectangles, walked. -/
namespace Go.Proofs.YtpbflnfcgcldkaaGreatDoor.Net
open Go.Sx Go.Proofs Go.RowKit
open Side (getD_memT sh_trans)
section
variable {w : World} {b c : Box} {p : Pan}
end
end Go.Proofs.YtpbflnfcgcldkaaGreatDoor.Net
/- The flat net, walked. -/
namespace Go.Proofs.YtpbflnfcgcldkaaGreatDoor.Net
open Go.Sx Go.Proofs Go.RowKit
open Side (getD_memT sh_trans own_le)
section
variable {w : World} {A : Option Addr} {c : Nat} {l : List Pan}
end
end Go.Proofs.YtpbflnfcgcldkaaGreatDoor.Net
/- The folded net, walked. -/
namespace Go.Proofs.YtpbflnfcgcldkaaGreatDoor.Net
open Go.Sx Go.Proofs Go.RowKit
open Side (getD_memT sh_trans own_le)
section
variable {w : World} {A : Option Addr} {c : Nat} {l : List Pan}
end
end Go.Proofs.YtpbflnfcgcldkaaGreatDoor.Net
/- Pockets and layers, walked. -/
namespace Go.Proofs.YtpbflnfcgcldkaaGreatDoor.Net
open Go.Sx Go.Proofs Go.RowKit
open Side (getD_memT sh_trans own_le)
def inB (b : Box) (x y : Int) : Prop := ((b.x0 ≤ x ∧ x < b.x1) ∧ b.y0 ≤ y) ∧ y < b.y1
instance (b : Box) (x y : Int) : Decidable (inB b x y) := by unfold inB; infer_instance
section
variable {w : World} {A : Option Addr} {c : Nat} {l : List Pan} {x y : Int}
end
end Go.Proofs.YtpbflnfcgcldkaaGreatDoor.Net
/- The net of two square panels and a flap, in plain Lean. -/
namespace Go.Proofs.YtpbflnfcgcldkaaGreatDoor.Net
open Go.Sx
open Side (getD_memT)
structure FlapIs (w d : Int) (q : Box) : Prop where
  down : q.down = false
  x : 0 ≤ q.x0 ∧ q.x0 < q.x1 ∧ q.x1 ≤ w
  y : 0 ≤ q.y0 ∧ q.y0 < q.y1 ∧ q.y1 ≤ w
  area : (q.x1 - q.x0 = d ∧ q.y1 - q.y0 = w) ∨ (q.x1 - q.x0 = w ∧ q.y1 - q.y0 = d)
end Go.Proofs.YtpbflnfcgcldkaaGreatDoor.Net
/- Formats that are valid, by the document's answer, walked. -/
namespace Go.Proofs.YtpbflnfcgcldkaaGreatDoor.Side
open Go.Sx Go.Proofs Go.RowKit
structure Fmt.Ref (f : Fmt) : Prop where
  nm : NmOk f.nm
  outer : 1 ≤ f.outer ∧ f.outer ≤ 4194304
  inner : 0 ≤ f.inner ∧ f.inner ≤ f.outer - 1
  per : 1 ≤ f.per ∧ f.per ≤ 65536
  lead : 0 ≤ f.lead ∧ f.lead ≤ 4194304
  gap : 0 ≤ f.gap ∧ f.gap ≤ 4194304
  tail : 0 ≤ f.tail ∧ f.tail ≤ 4194304
  cost : 0 ≤ f.cost ∧ f.cost ≤ 1048576
section
variable {w : World}
end
end Go.Proofs.YtpbflnfcgcldkaaGreatDoor.Side
/- Whether an order of tracks is possible, walked. -/
namespace Go.Proofs.YtpbflnfcgcldkaaGreatDoor.Side
open Go.Sx Go.Proofs Go.RowKit
section
variable {w : World} {A A2 : Option Addr} {c c2 g : Nat} {f : Fmt} {ts : List Trk} {od : List Int}
theorem C_widthG {t : Trk} {n : Nat} (hf : f.Ok) (ht : t.Ok) (hb : BlkAt w g (plC f A n c) 304) : Con0 Tryz.prog 236 [ptr g 0, .agg #[I t.long, I t.pitch, I t.least]] w (I (wid f t)) := C_width hf ht hb
def atq (f : Fmt) (ts : List Trk) (od : List Int) : Nat → Int
  | 0 => f.outer - f.lead
  | k + 1 => (if 0 < k then atq f ts od k - f.gap else atq f ts od k) - wid f (ts.getD (od.getD k default).toNat default)
def LayOk (f : Fmt) (ts : List Trk) (od : List Int) : Prop := (∀ k, k < od.length → (ts.getD (od.getD k default).toNat default).least ≤ atq f ts od (k + 1)) ∧ f.inner ≤ atq f ts od od.length - f.tail
def OdOk (ts : List Trk) (od : List Int) : Prop := od.length ≤ 24 ∧ ∀ x ∈ od, 0 ≤ x ∧ x < ts.length
theorem od_tk {k : Nat} (ho : OdOk ts od) (hk : k < od.length) : (od.getD k default).toNat < ts.length ∧ (((od.getD k default).toNat : Nat) : Int) = od.getD k default := by
  have := ho.2 _ (getD_memT hk); omega
theorem atq_bd (hf : f.Ok) (ht : ∀ t ∈ ts, t.Ok) (ho : OdOk ts od) : ∀ k, k ≤ od.length → -100000000000 * (k : Int) - 4194304 ≤ atq f ts od k ∧ atq f ts od k ≤ 4194304
  | 0, _ => by have h1 := hf.outer; have h2 := hf.lead; unfold atq; omega
  | k + 1, hk => by
    have ih := atq_bd hf ht ho k (by omega)
    have h1 := hf.gap
    obtain ⟨_, _, h2⟩ := wid_bd hf (ht _ (getD_memT (od_tk ho (k := k) (by omega)).1))
    rw [atq]
    split <;> omega
set_option maxRecDepth 20000 in
set_option maxHeartbeats 1000000 in
theorem C_layG (hf : f.Ok) (ht : ∀ t ∈ ts, t.Ok) (hb : BlkAt w g (plC f A ts.length c) 304) (h : RdL w 3 eTrk A ts) (hr : RdL w 1 eN A2 od) (ho : OdOk ts od) :
    Con Tryz.prog 246 [ptr g 0, .slice A2 od.length c2] w (fun y : Value × Value × Int => y.2.2 = 0 ↔ LayOk f ts od) (fun y => .tuple #[y.1, y.2.1, I y.2.2]) (fun _ => []) := by
  have h1 := hf.outer
  have h2 := hf.lead
  have h3 := hf.tail
  have h4 := hf.gap
  have hob := ho.1
  refine Ret_of (vs := [_, _]) hm none' Tryz.func246 rfl Tryz.ntmps246 rfl ?_
  dsimp only [slotsOf]
  refine GE_seq ?_;refine GE_plain (.st 0 (.st 1 (.st 2 .nil))) rfl ?_;refine GT_st rfl rfl rfl rfl (V_assign rfl rfl) ?_;refine GT_st rfl rfl rfl rfl (V_assign rfl rfl) ?_;refine GT_st rfl rfl rfl rfl (V_assign rfl rfl) ?_;refine GT_nil ?_;refine GE_seq ?_;refine GE_plain (.st 0 .nil) rfl ?_;refine GT_st rfl rfl rfl rfl (V_assign rfl rfl) ?_;refine GT_nil ?_;refine GE_seq ?_;refine GE_drawn (.st 0 (.st 1 (.st 2 (.st 3 (.st 4 (.st 5 (.st 6 (.st 7 (.st 8 (.st 9 (.st 10 (.st 11 .nil)))))))))))) [] (by decide +kernel) ?_;refine GT_st rfl rfl rfl rfl (V_move rfl rfl) ?_;refine GT_st rfl rfl rfl rfl (V_nilCheck rfl rfl) ?_;refine GT_st rfl rfl rfl rfl (V_field rfl rfl fo_304_0) ?_;refine GT_st rfl rfl rfl rfl (V_field rfl rfl fo_77_1) ?_;refine GT_st rfl rfl rfl rfl (V_load rfl rfl ag_2 (CellAt.old (hb.cell rfl) (noM _))) ?_;refine GT_st rfl rfl rfl rfl (V_move rfl rfl) ?_;refine GT_st rfl rfl rfl rfl (V_nilCheck rfl rfl) ?_;refine GT_st rfl rfl rfl rfl (V_field rfl rfl fo_304_0) ?_;refine GT_st rfl rfl rfl rfl (V_field rfl rfl fo_77_4) ?_;refine GT_st rfl rfl rfl rfl (V_load rfl rfl ag_2 (CellAt.old (hb.cell rfl) (noM _))) ?_;refine GT_st rfl rfl rfl rfl (V_sub rfl rfl rfl (wrap_i64 (by omega))) ?_;refine GT_st rfl rfl rfl rfl (V_assign rfl rfl) ?_;refine GT_nil ?_;refine GE_seq ?_;refine GE_seq ?_;refine GE_slots (L' := [(0, _), (1, _), (7, _), (8, _)]) ⟨rfl, rfl, rfl, rfl, trivial⟩ ?_;refine GE_plain (.st 0 (.st 1 (.st 2 .nil))) rfl ?_;refine GT_st rfl rfl rfl rfl (V_move rfl rfl) ?_;refine GT_st rfl rfl rfl rfl (V_len rfl Tryz.underlying38 rfl) ?_;refine GT_st rfl rfl rfl rfl (V_move rfl rfl) ?_;refine GT_nil ?_;refine GE_block ?_
  refine GE_to (GE_loop (ι := Nat × List Bnd × (Option Addr × Nat × Items)) (fun z => od.length - z.1) (fun z => [(0, ptr g 0), (1, .slice A2 od.length c2), (7, .slice z.2.2.1 z.2.1.length z.2.2.2.1), (8, I (atq f ts od z.1)), (23, .slice A2 od.length c2), (24, I od.length), (25, I z.1)]) (fun z => z.2.2.2.2) (fun z => z.1 ≤ od.length ∧ z.2.1.length = z.1 ∧ Own 3 491 eBnd z.2.1 (.slice z.2.2.1 z.2.1.length z.2.2.2.1) z.2.2.2.2 ∧ ∀ j, j < z.1 → (ts.getD (od.getD j default).toNat default).least ≤ atq f ts od (j + 1)) ?_ (0, [], (none, 0, [])) ?_) ⟨rfl, rfl, rfl, rfl, rfl, rfl, rfl, trivial⟩ HS.nil
  · rintro ⟨k, bl, y⟩ ⟨hk, hbl, hO, hall⟩ ih; dsimp only at hk hbl hO hall ih ⊢
    refine GE_seq ?_;refine GE_plain (.st 0 .nil) rfl ?_;refine GT_st rfl rfl rfl rfl (V_lss rfl rfl rfl) ?_;refine GT_nil ?_;refine GE_seq ?_;refine GE_cond rfl (fun q1 => ?_) (fun q1 => ?_)
    · have hkl : k < od.length := (by omega); obtain ⟨htk1, htk2⟩ := od_tk ho hkl; have hto := ht _ (getD_memT htk1); obtain ⟨_, _, h5⟩ := wid_bd hf hto; have hab := atq_bd hf ht ho k hk; have ha2 := atq_bd hf ht ho (k + 1) hkl; have hsu : atq f ts od (k + 1) = (if 0 < k then atq f ts od k - f.gap else atq f ts od k) - wid f (ts.getD (od.getD k default).toNat default) := rfl
      refine GE_skip ?_;refine GE_seq ?_;refine GE_block ?_;refine GE_seq ?_;refine GE_plain (.st 0 (.st 1 (.st 2 (.st 3 (.st 4 .nil))))) rfl ?_;refine GT_st rfl rfl rfl rfl (V_move rfl rfl) ?_;refine GT_st rfl rfl rfl rfl (V_index rfl rfl rfl Tryz.underlying38 sz_3 (k := k) rfl hkl (hr.isSome hkl)) ?_;refine GT_st rfl rfl rfl rfl (V_load rfl rfl ag_3 (hr.at0 noM hkl rfl)) ?_;refine GT_st rfl rfl rfl rfl (V_assign rfl rfl) ?_;refine GT_st rfl rfl rfl rfl (V_assign rfl rfl) ?_;refine GT_nil ?_;refine GE_cut (ι := Unit) (fun _ => [(0, ptr g 0), (1, .slice A2 od.length c2), (7, .slice y.1 bl.length y.2.1), (8, I (if 0 < k then atq f ts od k - f.gap else atq f ts od k)), (9, I k), (10, I (od.getD k default)), (23, .slice A2 od.length c2), (24, I od.length), (25, I k)]) (fun _ => y.2.2) (fun _ => True) ?_ (fun hk => ?_)
      · intro _ hx
        generalize hat : (if 0 < k then atq f ts od k - f.gap else atq f ts od k) = atG at *
        refine GE_seq ?_;refine GE_plain (.st 0 (.st 1 (.st 2 (.st 3 (.st 4 (.st 5 (.st 6 (.st 7 (.st 8 (.st 9 (.st 10 (.ld 11 [] (.st 12 (.st 13 (.ld 14 [] (.ld 15 [] .nil)))))))))))))))) rfl ?_;refine GT_st rfl rfl rfl rfl (V_move rfl rfl) ?_;refine GT_st rfl rfl rfl rfl (V_move rfl rfl) ?_;refine GT_st rfl rfl rfl rfl (V_move rfl rfl) ?_;refine GT_st rfl rfl rfl rfl (V_move rfl rfl) ?_;refine GT_st rfl rfl rfl rfl (V_move rfl rfl) ?_;refine GT_st rfl rfl rfl rfl (V_nilCheck rfl rfl) ?_;refine GT_st rfl rfl rfl rfl (V_field rfl rfl fo_304_1) ?_;refine GT_st rfl rfl rfl rfl (V_load rfl rfl ag_95 (CellAt.old (hb.cell rfl) (noM _))) ?_;refine GT_st rfl rfl rfl rfl (V_move rfl rfl) ?_;refine GT_st rfl rfl rfl rfl (V_index rfl rfl rfl Tryz.underlying95 sz_301 (k := (od.getD k default).toNat) htk2.symm htk1 (h.isSome htk1)) ?_;refine GT_st rfl rfl rfl rfl (V_loadN (vs := [_, _, _]) rfl rfl ag_301 sz_301 rfl (show CellsAt _ _ _ (eTrk (ts.getD (od.getD k default).toNat default)) from h.ats noM htk1)) ?_;refine GT_call0 rfl rfl rfl rfl rfl rfl rfl rfl rn_236 (fun w hw => C_widthG hf hto (hb.sh hw)) (GR_nil) ?_;refine GT_st rfl rfl rfl rfl (V_sub rfl rfl rfl ((wrap_i64 (by omega)).trans hsu.symm)) ?_;refine GT_st rfl rfl rfl rfl (V_build (vs := [_, _, _]) rfl rfl zc_491 pl_491 sa_491 rfl) ?_;refine GT_alloc rfl rfl rfl rfl rfl zc_491 (fun _ => GR_nil) (fun b11 => ?_)
        refine GT_store (vs := [_, _, _]) (l' := [_, _, _]) rfl rfl rfl rfl rfl rfl rfl sz_491 rfl rfl (Nat.le_of_ble_eq_true rfl) rfl (GR_nil) ?_;refine GT_nil ?_;refine GE_seq ?_;refine GE_seq ?_;refine GE_slots (L' := [(0, _), (1, _), (7, _), (9, _), (10, _), (11, _), (23, _), (24, _), (25, _)]) ⟨rfl, rfl, rfl, rfl, rfl, rfl, rfl, rfl, rfl, trivial⟩ ?_;refine GE_plain (.st 0 (.st 1 (.st 2 .nil))) rfl ?_;refine GT_st rfl rfl rfl rfl (V_field rfl rfl fo_491_2) ?_;refine GT_st rfl rfl rfl rfl (V_load rfl rfl ag_2 (CellAt.item rfl)) ?_;refine GT_st rfl rfl rfl rfl (V_assign rfl rfl) ?_;refine GT_nil ?_;refine GE_seq ?_;refine GE_plain (.st 0 (.st 1 (.st 2 (.st 3 (.st 4 (.st 5 (.st 6 (.st 7 (.st 8 (.st 9 .nil)))))))))) rfl ?_;refine GT_st rfl rfl rfl rfl (V_move rfl rfl) ?_;refine GT_st rfl rfl rfl rfl (V_move rfl rfl) ?_;refine GT_st rfl rfl rfl rfl (V_nilCheck rfl rfl) ?_;refine GT_st rfl rfl rfl rfl (V_field rfl rfl fo_304_1) ?_;refine GT_st rfl rfl rfl rfl (V_load rfl rfl ag_95 (CellAt.old (hb.cell rfl) (noM _))) ?_;refine GT_st rfl rfl rfl rfl (V_move rfl rfl) ?_;refine GT_st rfl rfl rfl rfl (V_index rfl rfl rfl Tryz.underlying95 sz_301 (k := (od.getD k default).toNat) htk2.symm htk1 (h.isSome htk1)) ?_;refine GT_st rfl rfl rfl rfl (V_fieldA rfl rfl fo_301_2) ?_;refine GT_st rfl rfl rfl rfl (V_load rfl rfl ag_2 (show CellAt _ _ _ (I (ts.getD (od.getD k default).toNat default).least) from h.at1 noM htk1 rfl)) ?_;refine GT_st rfl rfl rfl rfl (V_lss rfl rfl rfl) ?_;refine GT_nil ?_;refine GE_cond rfl (fun q3 => ?_) (fun q3 => ?_)
        · refine GE_seq ?_;refine GE_slots (L' := [(9, _)]) ⟨rfl, trivial⟩ ?_;refine GE_plain (.st 0 (.st 1 (.st 2 (.st 3 .nil)))) rfl ?_;refine GT_st rfl rfl rfl rfl (V_move rfl rfl) ?_;refine GT_st rfl rfl rfl rfl (V_assign rfl rfl) ?_;refine GT_st rfl rfl rfl rfl (V_assign rfl rfl) ?_;refine GT_st rfl rfl rfl rfl (V_assign rfl rfl) ?_;refine GT_nil ?_;refine GE_ret Tryz.func246 ⟨_, _, _, rfl, rfl, rfl, rfl⟩ (fun w hw => ?_)
          exact ⟨(_, _, 20), ⟨fun e => (by cases e), fun e => absurd (e.1 k hkl) (by omega)⟩, rfl, hw.nil⟩
        · refine GE_skip ?_;refine GE_slots (L' := [(0, _), (1, _), (7, _), (8, _), (11, _), (23, _), (24, _), (25, _)]) ⟨rfl, rfl, rfl, rfl, rfl, rfl, rfl, rfl, trivial⟩ ?_;refine GE_plain (.st 0 (.st 1 (.ld 2 [] (.ld 3 [] (.ld 4 [] .nil))))) rfl ?_;refine GT_st rfl rfl rfl rfl (V_move rfl rfl) ?_;refine GT_st rfl rfl rfl rfl (V_loadN (vs := [_, _, _]) rfl rfl ag_491 sz_491 rfl (CellsAt.item rfl)) ?_;refine GT_buildSlice (z := [_, _, _]) rfl rfl rfl rfl rfl Tryz.underlying433 zc_491 sz_491 (by decide) rfl rfl (fun _ => GR_nil) (fun b68 => ?_)
          refine GT_append (enc := eBnd) (l := bl) (m := [⟨od.getD k default, atG, atq f ts od (k + 1)⟩]) rfl rfl rfl rfl rfl rfl rfl hO (fun w m => RdL.own' m eBnd_len) Tryz.underlying433 zc_491 sz_491 ⟨rfl, by decide⟩ by_491 ⟨by simp only [List.length_singleton]; omega, by simp only [List.length_singleton]; omega⟩ eBnd_len eBnd_one (fun _ _ _ _ => GR_nil) (fun A3 c3 I3 hO3 => ?_)
          refine GT_ldv rfl rfl rfl rfl rfl (V_assign rfl rfl) (GR_nil) ?_;refine GT_nil ?_;refine GE_inBlock ?_;refine GE_slots (L' := [(0, _), (1, _), (7, _), (8, _), (23, _), (24, _), (25, _)]) ⟨rfl, rfl, rfl, rfl, rfl, rfl, rfl, trivial⟩ ?_;refine GE_plain (.st 0 (.ld 1 [] .nil)) rfl ?_;refine GT_st rfl rfl rfl rfl (V_add rfl rfl rfl (wrap_i64 (by omega))) ?_;refine GT_ldv rfl rfl rfl rfl rfl (V_move rfl rfl) (GR_nil) ?_;refine GT_nil ?_
          exact GE_to (ih (k + 1, bl ++ [⟨od.getD k default, atG, atq f ts od (k + 1)⟩], (A3, c3, I3)) ⟨by dsimp only; omega, by dsimp only; rw [List.length_append, hbl]; rfl, hO3, fun j hj => by dsimp only at hj; by_cases e : j = k; (subst e; omega); exact hall j (by omega)⟩ (by dsimp only; omega)) ⟨rfl, rfl, rfl, rfl, rfl, rfl, rfl, trivial⟩ HS.last
      · refine GE_seq ?_;refine GE_slots (L' := [(0, _), (1, _), (7, _), (8, _), (9, _), (10, _), (23, _), (24, _), (25, _)]) ⟨rfl, rfl, rfl, rfl, rfl, rfl, rfl, rfl, rfl, trivial⟩ ?_;refine GE_plain (.st 0 (.st 1 .nil)) rfl ?_;refine GT_st rfl rfl rfl rfl (V_move rfl rfl) ?_;refine GT_st rfl rfl rfl rfl (V_gtr rfl rfl rfl) ?_;refine GT_nil ?_;refine GE_cond rfl (fun q2 => ?_) (fun q2 => ?_)
        · refine GE_plain (.st 0 (.st 1 (.st 2 (.st 3 (.st 4 (.st 5 (.st 6 (.ld 7 [] .nil)))))))) rfl ?_;refine GT_st rfl rfl rfl rfl (V_move rfl rfl) ?_;refine GT_st rfl rfl rfl rfl (V_move rfl rfl) ?_;refine GT_st rfl rfl rfl rfl (V_nilCheck rfl rfl) ?_;refine GT_st rfl rfl rfl rfl (V_field rfl rfl fo_304_0) ?_;refine GT_st rfl rfl rfl rfl (V_field rfl rfl fo_77_5) ?_;refine GT_st rfl rfl rfl rfl (V_load rfl rfl ag_2 (CellAt.old (hb.cell rfl) (noM _))) ?_;refine GT_st rfl rfl rfl rfl (V_sub rfl rfl rfl (wrap_i64 (by omega))) ?_;refine GT_ldv rfl rfl rfl rfl rfl (V_assign rfl rfl) (GR_nil) ?_;refine GT_nil ?_
          exact GE_to (hk () trivial) ⟨rfl, rfl, rfl, lookI rfl (by first | rw [if_pos (by omega)] | rw [if_neg (by omega)]), rfl, rfl, rfl, rfl, rfl, trivial⟩ HS.last
        · refine GE_skip ?_
          exact GE_to (hk () trivial) ⟨rfl, rfl, rfl, lookI rfl (by first | rw [if_pos (by omega)] | rw [if_neg (by omega)]), rfl, rfl, rfl, rfl, rfl, trivial⟩ HS.last
    · obtain rfl : k = od.length := (by omega); have hab := atq_bd hf ht ho od.length hk
      refine GE_exit rfl ?_;refine GE_seq ?_;refine GE_seq ?_;refine GE_slots (L' := [(0, _), (1, _), (7, _), (8, _)]) ⟨rfl, rfl, rfl, rfl, trivial⟩ ?_;refine GE_drawn (.st 0 (.st 1 (.st 2 (.st 3 (.st 4 (.st 5 (.st 6 (.st 7 (.st 8 (.st 9 (.st 10 (.st 11 (.st 12 .nil))))))))))))) [] (by decide +kernel) ?_;refine GT_st rfl rfl rfl rfl (V_move rfl rfl) ?_;refine GT_st rfl rfl rfl rfl (V_move rfl rfl) ?_;refine GT_st rfl rfl rfl rfl (V_nilCheck rfl rfl) ?_;refine GT_st rfl rfl rfl rfl (V_field rfl rfl fo_304_0) ?_;refine GT_st rfl rfl rfl rfl (V_field rfl rfl fo_77_6) ?_;refine GT_st rfl rfl rfl rfl (V_load rfl rfl ag_2 (CellAt.old (hb.cell rfl) (noM _))) ?_;refine GT_st rfl rfl rfl rfl (V_sub rfl rfl rfl (wrap_i64 (by omega))) ?_;refine GT_st rfl rfl rfl rfl (V_move rfl rfl) ?_;refine GT_st rfl rfl rfl rfl (V_nilCheck rfl rfl) ?_;refine GT_st rfl rfl rfl rfl (V_field rfl rfl fo_304_0) ?_;refine GT_st rfl rfl rfl rfl (V_field rfl rfl fo_77_2) ?_;refine GT_st rfl rfl rfl rfl (V_load rfl rfl ag_2 (CellAt.old (hb.cell rfl) (noM _))) ?_;refine GT_st rfl rfl rfl rfl (V_lss rfl rfl rfl) ?_;refine GT_nil ?_;refine GE_cond rfl (fun q4 => ?_) (fun q4 => ?_)
      · refine GE_seq ?_;refine GE_slots (L' := [(1, _)]) ⟨rfl, trivial⟩ ?_;refine GE_plain (.st 0 (.st 1 (.st 2 (.st 3 (.st 4 .nil))))) rfl ?_;refine GT_st rfl rfl rfl rfl (V_move rfl rfl) ?_;refine GT_st rfl rfl rfl rfl (V_len rfl Tryz.underlying38 rfl) ?_;refine GT_st rfl rfl rfl rfl (V_assign rfl rfl) ?_;refine GT_st rfl rfl rfl rfl (V_assign rfl rfl) ?_;refine GT_st rfl rfl rfl rfl (V_assign rfl rfl) ?_;refine GT_nil ?_;refine GE_ret Tryz.func246 ⟨_, _, _, rfl, rfl, rfl, rfl⟩ (fun w hw => ?_)
        exact ⟨(_, _, 14), ⟨fun e => (by cases e), fun e => absurd e.2 (by omega)⟩, rfl, hw.nil⟩
      · refine GE_skip ?_;refine GE_seq ?_;refine GE_slots (L' := [(1, _), (7, _)]) ⟨rfl, rfl, trivial⟩ ?_;refine GE_plain (.st 0 (.st 1 (.st 2 (.st 3 (.st 4 (.st 5 .nil)))))) rfl ?_;refine GT_st rfl rfl rfl rfl (V_move rfl rfl) ?_;refine GT_st rfl rfl rfl rfl (V_move rfl rfl) ?_;refine GT_st rfl rfl rfl rfl (V_len rfl Tryz.underlying38 rfl) ?_;refine GT_st rfl rfl rfl rfl (V_assign rfl rfl) ?_;refine GT_st rfl rfl rfl rfl (V_assign rfl rfl) ?_;refine GT_st rfl rfl rfl rfl (V_assign rfl rfl) ?_;refine GT_nil ?_;refine GE_ret Tryz.func246 ⟨_, _, _, rfl, rfl, rfl, rfl⟩ (fun w hw => ?_)
        exact ⟨(_, _, 0), ⟨fun _ => ⟨hall, by omega⟩, fun _ => rfl⟩, rfl, hw.nil⟩
  · exact ⟨Nat.zero_le _, rfl, Own.nil, fun j hj => by omega⟩
theorem C_possibleG (hf : f.Ok) (ht : ∀ t ∈ ts, t.Ok) (hb : BlkAt w g (plC f A ts.length c) 304) (h : RdL w 3 eTrk A ts) (hr : RdL w 1 eN A2 od) (ho : OdOk ts od) :
    Con Tryz.prog 204 [ptr g 0, .slice A2 od.length c2] w (fun b : Bool => b = true ↔ LayOk f ts od) (fun b => .bool b) (fun _ => []) := by
  refine Ret_of (vs := [_, _]) hm none' Tryz.func204 rfl Tryz.ntmps204 rfl ?_
  dsimp only [slotsOf]
  refine GE_seq ?_;refine GE_plain (.st 0 .nil) rfl ?_;refine GT_st rfl rfl rfl rfl (V_assign rfl rfl) ?_;refine GT_nil ?_;refine GE_seq ?_;refine GE_plain (.st 0 (.st 1 (.ld 2 [] (.st 3 (.st 4 (.st 5 (.st 6 (.st 7 (.st 8 (.st 9 .nil)))))))))) rfl ?_;refine GT_st rfl rfl rfl rfl (V_move rfl rfl) ?_;refine GT_st rfl rfl rfl rfl (V_move rfl rfl) ?_;refine GT_call rfl rfl rfl rfl rfl rfl rfl rfl rn_246 (fun w hw => C_layG (c2 := c2) hf ht (hb.sh hw) (h.sh hw) (hr.sh hw) ho) (fun _ _ => GR_nil) (fun y hy => ?_)
  refine GT_st rfl rfl rfl rfl (V_move rfl rfl) ?_;refine GT_st rfl rfl rfl rfl (V_extract rfl rfl rfl) ?_;refine GT_st rfl rfl rfl rfl (V_extract rfl rfl rfl) ?_;refine GT_st rfl rfl rfl rfl (V_extract rfl rfl rfl) ?_;refine GT_st rfl rfl rfl rfl (V_assign rfl rfl) ?_;refine GT_st rfl rfl rfl rfl (V_assign rfl rfl) ?_;refine GT_st rfl rfl rfl rfl (V_assign rfl rfl) ?_;refine GT_nil ?_;refine GE_seq ?_;refine GE_slots (L' := [(7, _)]) ⟨rfl, trivial⟩ ?_;refine GE_plain (.st 0 (.st 1 (.st 2 .nil))) rfl ?_;refine GT_st rfl rfl rfl rfl (V_move rfl rfl) ?_;refine GT_st rfl rfl rfl rfl (V_eql rfl rfl rfl) ?_;refine GT_st rfl rfl rfl rfl (V_assign rfl rfl) ?_;refine GT_nil ?_;refine GE_ret Tryz.func204 rfl (fun w hw => ?_)
  exact ⟨decide (y.2.2 = 0), by rw [decide_eq_true_eq]; exact hy, rfl, hw.nil⟩
end
end Go.Proofs.YtpbflnfcgcldkaaGreatDoor.Side
/- Few numbers in order, by slices.SortFunc, plain and walked. -/
namespace Go.Proofs.YtpbflnfcgcldkaaGreatDoor.Side
open Go.Sx Go.Proofs Go.RowKit
def sw2 (d : List Int) (j : Nat) : List Int := (d.set (j + 1) (d.getD j default)).set j (d.getD (j + 1) default)
def inn (cmp : Int → Int → Int) : List Int → Nat → List Int
  | d, 0 => d
  | d, j + 1 => if cmp (d.getD (j + 1) default) (d.getD j default) < 0 then inn cmp (sw2 d j) j else d
def srq (cmp : Int → Int → Int) (l : List Int) : Nat → List Int
  | 0 => l
  | k + 1 => inn cmp (srq cmp l k) (k + 1)
theorem sw2_len {d : List Int} {j : Nat} : (sw2 d j).length = d.length := by simp [sw2]
theorem sw2_mem {d l : List Int} {j : Nat} (hj : j + 1 < d.length) (h : ∀ x ∈ d, x ∈ l) : ∀ x ∈ sw2 d j, x ∈ l := by
  intro x hx
  rcases List.mem_or_eq_of_mem_set hx with q | rfl
  · rcases List.mem_or_eq_of_mem_set q with q | rfl
    · exact h x q
    · exact h _ (getD_memT (by omega))
  · exact h _ (getD_memT hj)
theorem inn_ok (cmp : Int → Int → Int) {l : List Int} : ∀ (j : Nat) (d : List Int), j < d.length → (∀ x ∈ d, x ∈ l) → (inn cmp d j).length = d.length ∧ ∀ x ∈ inn cmp d j, x ∈ l
  | 0, d, _, h => ⟨rfl, h⟩
  | j + 1, d, hj, h => by
    rw [inn]
    split
    · have := inn_ok cmp j (sw2 d j) (by rw [sw2_len]; omega) (sw2_mem hj h)
      rwa [sw2_len] at this
    · exact ⟨rfl, h⟩
theorem srq_ok (cmp : Int → Int → Int) {l : List Int} : ∀ k, k < l.length → (srq cmp l k).length = l.length ∧ ∀ x ∈ srq cmp l k, x ∈ l
  | 0, _ => ⟨rfl, fun _ h => h⟩
  | k + 1, hk => by
    obtain ⟨h1, h2⟩ := srq_ok cmp (l := l) k (by omega)
    have := inn_ok cmp (l := l) (k + 1) (srq cmp l k) (by omega) h2
    rw [h1] at this
    exact this
section
variable {w w0 : World} {A : Option Addr} {c g fi : Nat} {l : List Int} {cmp : Int → Int → Int} {G I0 : Items}
set_option maxRecDepth 20000 in
theorem C_insC (hrun : runs Tryz.prog fi = true) (hcmp : ∀ w H, SH w0 none' H w → ∀ x ∈ l, ∀ y ∈ l, Con0 Tryz.prog fi [ptr g 0, I x, I y] w (I (cmp x y))) (hl : 1 ≤ l.length ∧ l.length ≤ 1000)
    (hO : Own 1 3 eN l (.slice A l.length c) I0) (m : SH w0 none' (I0 ++ G) w) :
    Ret Tryz.prog 356 [.slice A l.length c, I 0, I l.length, .func (.func fi) #[ptr g 0] #[]].toArray w fun v w' => ∃ I', Own 1 3 eN (srq cmp l (l.length - 1)) (.slice A l.length c) I' ∧ v = .tuple #[] ∧ SH w0 none' (I' ++ G) w' := by
  refine Ret_ofH (vs := [_, _, _, _]) hm none' Tryz.func356 rfl Tryz.ntmps356 rfl m ?_
  dsimp only [slotsOf]
  refine GE_seq ?_;refine GE_plain (.st 0 (.st 1 (.st 2 .nil))) rfl ?_;refine GT_st rfl rfl rfl rfl (V_move rfl rfl) ?_;refine GT_st rfl rfl rfl rfl (V_add rfl rfl rfl (wrap_i64 (by omega))) ?_;refine GT_st rfl rfl rfl rfl (V_assign rfl rfl) ?_;refine GT_nil ?_;refine GE_block ?_;refine GE_to (GE_loop (ι := Nat × Items) (fun z => l.length - z.1) (fun z => [(0, .slice A l.length c), (1, I 0), (2, I l.length), (3, .func (.func fi) #[ptr g 0] #[]), (8, I z.1)]) (fun z => z.2 ++ G) (fun z => (1 ≤ z.1 ∧ z.1 ≤ l.length) ∧ Own 1 3 eN (srq cmp l (z.1 - 1)) (.slice A l.length c) z.2) ?_ (1, I0) ?_) ⟨rfl, rfl, rfl, rfl, rfl, trivial⟩ (HS.chunk HS.last)
  · rintro ⟨i, I1⟩ ⟨⟨hi1, hi2⟩, hO1⟩ ih; dsimp only at hi1 hi2 hO1 ih ⊢
    refine GE_seq ?_;refine GE_seq ?_;refine GE_plain (.st 0 (.st 1 (.st 2 .nil))) rfl ?_;refine GT_st rfl rfl rfl rfl (V_move rfl rfl) ?_;refine GT_st rfl rfl rfl rfl (V_move rfl rfl) ?_;refine GT_st rfl rfl rfl rfl (V_lss rfl rfl rfl) ?_;refine GT_nil ?_;refine GE_cond rfl (fun q1 => ?_) (fun q1 => ?_)
    · have hil : i < l.length := (by omega); obtain ⟨hs1, hs2⟩ := srq_ok cmp (l := l) (i - 1) (by omega); have hsi : srq cmp l i = inn cmp (srq cmp l (i - 1)) i := (by rw [show i = (i - 1) + 1 by omega]; rfl)
      refine GE_skip ?_;refine GE_seq ?_;refine GE_block ?_;refine GE_seq ?_;refine GE_plain (.st 0 (.st 1 .nil)) rfl ?_;refine GT_st rfl rfl rfl rfl (V_move rfl rfl) ?_;refine GT_st rfl rfl rfl rfl (V_assign rfl rfl) ?_;refine GT_nil ?_;refine GE_block ?_;refine GE_to (GE_loop (ι := Nat × List Int × Items) (fun z => z.1) (fun z => [(0, .slice A l.length c), (1, I 0), (2, I l.length), (3, .func (.func fi) #[ptr g 0] #[]), (8, I i), (9, I z.1)]) (fun z => z.2.2 ++ G) (fun z => z.1 < l.length ∧ z.2.1.length = l.length ∧ (∀ x ∈ z.2.1, x ∈ l) ∧ srq cmp l i = inn cmp z.2.1 z.1 ∧ Own 1 3 eN z.2.1 (.slice A l.length c) z.2.2) ?_ (i, srq cmp l (i - 1), I1) ?_) ⟨rfl, rfl, rfl, rfl, rfl, rfl, trivial⟩ (HS.chunk HS.last)
      · rintro ⟨j, d, I2⟩ ⟨hjl, hdl, hdm, hst, hO2⟩ ih2; dsimp only at hjl hdl hdm hst hO2 ih2 ⊢
        refine GE_seq ?_;refine GE_seq ?_;refine GE_drawn (.st 0 (.st 1 (.st 2 (.st 3 (.st 4 (.st 5 (.st 6 (.st 7 (.st 8 (.st 9 (.st 10 (.st 11 (.st 12 (.st 13 (.ld 14 [] (.st 15 (.st 16 .nil))))))))))))))))) [14] (by decide +kernel) ?_;refine GT_st rfl rfl rfl rfl (V_move rfl rfl) ?_;refine GT_st rfl rfl rfl rfl (V_move rfl rfl) ?_;refine GT_st rfl rfl rfl rfl (V_gtr rfl rfl rfl) ?_;refine GT_st rfl rfl rfl rfl (V_move rfl rfl) ?_;refine GT_split (d := 21) rfl (fun q2 => ?_) (fun q2 => ?_)
        · have hj1 : j - 1 + 1 = j := (by omega); have hst1 : inn cmp d j = (if cmp (d.getD j default) (d.getD (j - 1) default) < 0 then inn cmp (sw2 d (j - 1)) (j - 1) else d) := (by rw [show inn cmp d j = inn cmp d (j - 1 + 1) by rw [hj1], inn, hj1])
          refine GT_st_g rfl rfl rfl rfl rfl rfl rfl (V_move rfl rfl) ?_;refine GT_st_g rfl rfl rfl rfl rfl rfl rfl (V_move rfl rfl) ?_;refine GT_st_g rfl rfl rfl rfl rfl rfl rfl (V_move rfl rfl) ?_;refine GT_st_g rfl rfl rfl rfl rfl rfl rfl (V_index rfl rfl rfl Tryz.underlying38 sz_3 (k := j) rfl hjl (hO2.isSome (k := j) (by omega))) ?_;refine GT_st_g rfl rfl rfl rfl rfl rfl rfl (V_load rfl rfl ag_3 (CellAt.own0 (k := j) hO2 eN_len (by omega) rfl)) ?_;refine GT_st_g rfl rfl rfl rfl rfl rfl rfl (V_move rfl rfl) ?_;refine GT_st_g rfl rfl rfl rfl rfl rfl rfl (V_move rfl rfl) ?_;refine GT_st_g rfl rfl rfl rfl rfl rfl rfl (V_sub rfl rfl rfl (wrap_i64 (by omega))) ?_;refine GT_st_g rfl rfl rfl rfl rfl rfl rfl (V_index rfl rfl rfl Tryz.underlying38 sz_3 (k := j - 1) (by omega) (by omega) (hO2.isSome (k := j - 1) (by omega))) ?_;refine GT_st_g rfl rfl rfl rfl rfl rfl rfl (V_load rfl rfl ag_3 (CellAt.own0 (k := j - 1) hO2 eN_len (by omega) rfl)) ?_;refine GT_call0_g (fi := fi) rfl rfl rfl rfl rfl rfl rfl rfl rfl rfl rfl hrun (fun w hw => hcmp _ _ hw _ (hdm _ (getD_memT (by omega))) _ (hdm _ (getD_memT (by omega)))) (GR_nil) ?_;refine GT_st_g rfl rfl rfl rfl rfl rfl rfl (V_lss rfl rfl rfl) ?_;refine GT_st rfl rfl rfl rfl (V_pick_t rfl rfl rfl) ?_;refine GT_nil ?_;refine GE_cond rfl (fun q3 => ?_) (fun q3 => ?_)
          · have hst2 : srq cmp l i = inn cmp (sw2 d (j - 1)) (j - 1) := (by rw [hst, hst1, if_pos q3])
            refine GE_skip ?_;refine GE_seq ?_;refine GE_block ?_;refine GE_slots (L' := [(0, _), (1, _), (2, _), (3, _), (8, _), (9, _), (22, _), (23, _), (24, _), (25, _), (26, _), (27, _), (28, _), (29, _), (30, _), (31, _), (32, _), (33, _)]) ⟨rfl, rfl, rfl, rfl, rfl, rfl, rfl, rfl, rfl, rfl, rfl, rfl, rfl, rfl, rfl, rfl, rfl, rfl, trivial⟩ ?_;refine GE_drawn (.st 0 (.st 1 (.st 2 (.st 3 (.st 4 (.st 5 (.st 6 (.st 7 (.st 8 (.st 9 (.st 10 (.st 11 (.st 12 (.st 13 (.st 14 (.ld 15 [2, 3, 4] (.st 16 (.ld 17 [] .nil)))))))))))))))))) [15, 17] (by decide +kernel) ?_;refine GT_st rfl rfl rfl rfl (V_move rfl rfl) ?_;refine GT_st rfl rfl rfl rfl (V_move rfl rfl) ?_;refine GT_st rfl rfl rfl rfl (V_move rfl rfl) ?_;refine GT_st rfl rfl rfl rfl (V_move rfl rfl) ?_;refine GT_st rfl rfl rfl rfl (V_sub rfl rfl rfl (wrap_i64 (by omega))) ?_;refine GT_st rfl rfl rfl rfl (V_move rfl rfl) ?_;refine GT_st rfl rfl rfl rfl (V_move rfl rfl) ?_;refine GT_st rfl rfl rfl rfl (V_sub rfl rfl rfl (wrap_i64 (by omega))) ?_;refine GT_st rfl rfl rfl rfl (V_index rfl rfl rfl Tryz.underlying38 sz_3 (k := j - 1) (by omega) (by omega) (hO2.isSome (k := j - 1) (by omega))) ?_;refine GT_st rfl rfl rfl rfl (V_load rfl rfl ag_3 (CellAt.own0 (k := j - 1) hO2 eN_len (by omega) rfl)) ?_;refine GT_st rfl rfl rfl rfl (V_move rfl rfl) ?_;refine GT_st rfl rfl rfl rfl (V_move rfl rfl) ?_;refine GT_st rfl rfl rfl rfl (V_index rfl rfl rfl Tryz.underlying38 sz_3 (k := j) rfl hjl (hO2.isSome (k := j) (by omega))) ?_;refine GT_st rfl rfl rfl rfl (V_load rfl rfl ag_3 (CellAt.own0 (k := j) hO2 eN_len (by omega) rfl)) ?_;refine GT_st rfl rfl rfl rfl (V_index rfl rfl rfl Tryz.underlying38 sz_3 (k := j) rfl hjl (hO2.isSome (k := j) (by omega))) ?_
            refine GT_storeOwn (enc := eN) (q := j) (xx := d.getD (j - 1) default) rfl rfl rfl rfl rfl rfl rfl sz_3 hO2 eN_len eN_one (by omega) (by decide) (fun _ _ => GR_cons rfl rfl rfl rfl (V_move rfl rfl) (GR_cons rfl rfl rfl rfl (V_move rfl rfl) (GR_cons rfl rfl rfl rfl (V_sub rfl rfl rfl (wrap_i64 (by omega))) (GR_nil)))) (fun I3 hO3 => ?_)
            refine GT_st rfl rfl rfl rfl (V_index rfl rfl rfl Tryz.underlying38 sz_3 (k := j - 1) (by omega) (by omega) (hO2.isSome (k := j - 1) (by omega))) ?_;refine GT_storeOwn (enc := eN) (q := j - 1) (xx := d.getD j default) rfl rfl rfl rfl rfl rfl rfl sz_3 hO3 eN_len eN_one (by rw [List.length_set]; omega) (by decide) (fun _ _ => GR_nil) (fun I4 hO4 => ?_)
            refine GT_nil ?_;refine GE_inBlock ?_;refine GE_slots (L' := [(0, _), (1, _), (2, _), (3, _), (8, _), (9, _), (22, _), (23, _), (24, _), (25, _), (26, _), (27, _), (28, _), (29, _), (30, _), (31, _), (32, _), (33, _)]) ⟨rfl, rfl, rfl, rfl, rfl, rfl, rfl, rfl, rfl, rfl, rfl, rfl, rfl, rfl, rfl, rfl, rfl, rfl, trivial⟩ ?_;refine GE_plain (.st 0 (.st 1 (.ld 2 [] .nil))) rfl ?_;refine GT_st rfl rfl rfl rfl (V_move rfl rfl) ?_;refine GT_st rfl rfl rfl rfl (V_sub rfl rfl rfl (wrap_i64 (by omega))) ?_;refine GT_ldv rfl rfl rfl rfl rfl (V_assign rfl rfl) (GR_nil) ?_;refine GT_nil ?_
            exact GE_to (ih2 (j - 1, sw2 d (j - 1), I4) ⟨by dsimp only; omega, by dsimp only; rw [sw2_len]; exact hdl, by dsimp only; exact sw2_mem (by omega) hdm, hst2, by dsimp only; unfold sw2; rw [hj1]; exact hO4⟩ (by dsimp only; omega)) ⟨rfl, rfl, rfl, rfl, rfl, lookI rfl (by dsimp only; omega), trivial⟩ (HS.chunk HS.last)
          · have hst : srq cmp l i = d := (by rw [hst, hst1, if_neg q3])
            refine GE_exit rfl ?_;refine GE_inBlock ?_;refine GE_slots (L' := [(0, _), (1, _), (2, _), (3, _), (8, _), (22, _), (23, _), (24, _), (25, _), (26, _), (27, _), (28, _), (29, _), (30, _), (31, _), (32, _), (33, _)]) ⟨rfl, rfl, rfl, rfl, rfl, rfl, rfl, rfl, rfl, rfl, rfl, rfl, rfl, rfl, rfl, rfl, rfl, trivial⟩ ?_;refine GE_plain (.st 0 (.st 1 (.ld 2 [] .nil))) rfl ?_;refine GT_st rfl rfl rfl rfl (V_move rfl rfl) ?_;refine GT_st rfl rfl rfl rfl (V_add rfl rfl rfl (wrap_i64 (by omega))) ?_;refine GT_ldv rfl rfl rfl rfl rfl (V_assign rfl rfl) (GR_nil) ?_;refine GT_nil ?_
            exact GE_to (ih (i + 1, I2) ⟨⟨by dsimp only; omega, by dsimp only; omega⟩, by dsimp only; rw [Nat.add_sub_cancel, hst]; exact hO2⟩ (by dsimp only; omega)) ⟨rfl, rfl, rfl, rfl, rfl, trivial⟩ (HS.chunk HS.last)
        · obtain rfl : j = 0 := (by omega); have hst : srq cmp l i = d := hst
          refine GT_skip rfl rfl rfl rfl rfl (by decide) rfl rfl ?_;refine GT_skip rfl rfl rfl rfl rfl (by decide) rfl rfl ?_;refine GT_skip rfl rfl rfl rfl rfl (by decide) rfl rfl ?_;refine GT_skip rfl rfl rfl rfl rfl (by decide) rfl rfl ?_;refine GT_skip rfl rfl rfl rfl rfl (by decide) rfl rfl ?_;refine GT_skip rfl rfl rfl rfl rfl (by decide) rfl rfl ?_;refine GT_skip rfl rfl rfl rfl rfl (by decide) rfl rfl ?_;refine GT_skip rfl rfl rfl rfl rfl (by decide) rfl rfl ?_;refine GT_skip rfl rfl rfl rfl rfl (by decide) rfl rfl ?_;refine GT_skip rfl rfl rfl rfl rfl (by decide) rfl rfl ?_;refine GT_skip_ld rfl rfl rfl rfl rfl (by decide) rfl rfl rfl (GR_nil) ?_;refine GT_skip rfl rfl rfl rfl rfl (by decide) rfl rfl ?_;refine GT_st rfl rfl rfl rfl (V_pick_f rfl rfl rfl) ?_;refine GT_nil ?_;refine GE_cond_f rfl ?_;refine GE_exit rfl ?_;refine GE_inBlock ?_;refine GE_slots (L' := [(0, _), (1, _), (2, _), (3, _), (8, _), (22, _), (23, _), (24, _), (25, _), (26, _), (27, _), (28, _), (29, _), (30, _), (31, _), (32, _), (33, _)]) ⟨rfl, rfl, rfl, rfl, rfl, rfl, rfl, rfl, rfl, rfl, rfl, rfl, rfl, rfl, rfl, rfl, rfl, trivial⟩ ?_;refine GE_plain (.st 0 (.st 1 (.ld 2 [] .nil))) rfl ?_;refine GT_st rfl rfl rfl rfl (V_move rfl rfl) ?_;refine GT_st rfl rfl rfl rfl (V_add rfl rfl rfl (wrap_i64 (by omega))) ?_;refine GT_ldv rfl rfl rfl rfl rfl (V_assign rfl rfl) (GR_nil) ?_;refine GT_nil ?_
          exact GE_to (ih (i + 1, I2) ⟨⟨by dsimp only; omega, by dsimp only; omega⟩, by dsimp only; rw [Nat.add_sub_cancel, hst]; exact hO2⟩ (by dsimp only; omega)) ⟨rfl, rfl, rfl, rfl, rfl, trivial⟩ (HS.chunk HS.last)
      · exact ⟨hil, hs1, hs2, hsi, hO1⟩
    · obtain rfl : i = l.length := (by omega)
      refine GE_exit rfl ?_;refine GE_end Tryz.func356 rfl (fun w hw => ⟨I1, hO1, rfl, hw⟩)
      skip
  · exact ⟨⟨Nat.le_refl _, hl.1⟩, hO⟩
end
end Go.Proofs.YtpbflnfcgcldkaaGreatDoor.Side
/- The usual order of tracks, walked. -/
namespace Go.Proofs.YtpbflnfcgcldkaaGreatDoor.Side
open Go.Sx Go.Proofs Go.RowKit
def cmpI (x y : Int) : Int := if x < y then -1 else if y < x then 1 else 0
def lst (ts : List Trk) (x : Int) : Int := (ts.getD x.toNat default).least
def usl (ts : List Trk) (x y : Int) : Int := if cmpI (lst ts y) (lst ts x) = 0 then cmpI x y else cmpI (lst ts y) (lst ts x)
def spL (i n : Nat) : List Int := (List.range n).map fun k => ((i + k : Nat) : Int)
theorem spL_len (i n : Nat) : (spL i n).length = n := by simp [spL]
theorem spL_succ (i n : Nat) : spL i (n + 1) = spL i n ++ [((i + n : Nat) : Int)] := by simp [spL, List.range_succ]
section
variable {w w0 : World} {A A2 : Option Addr} {c c2 g fi : Nat} {l : List Int} {cmp : Int → Int → Int} {G I0 : Items}
theorem C_span {i n : Nat} (h : i + n ≤ 1000) : Con Tryz.prog 205 [I i, I (i + n : Nat)] w (fun y : Option Addr × Nat × Items => Own 1 3 eN (spL i n) (.slice y.1 (spL i n).length y.2.1) y.2.2) (fun y => .slice y.1 (spL i n).length y.2.1) (fun y => y.2.2) := by
  refine Ret_of (vs := [_, _]) hm none' Tryz.func205 rfl Tryz.ntmps205 rfl ?_
  dsimp only [slotsOf]
  refine GE_seq ?_;refine GE_plain (.st 0 .nil) rfl ?_;refine GT_st rfl rfl rfl rfl (V_assign rfl rfl) ?_;refine GT_nil ?_;refine GE_seq ?_;refine GE_plain (.st 0 .nil) rfl ?_;refine GT_st rfl rfl rfl rfl (V_assign rfl rfl) ?_;refine GT_nil ?_;refine GE_seq ?_;refine GE_block ?_;refine GE_to (GE_loop (ι := Nat × (Option Addr × Nat × Items)) (fun z => n - z.1) (fun z => [(0, I (i + z.1 : Nat)), (1, I (i + n : Nat)), (5, .slice z.2.1 (spL i z.1).length z.2.2.1)]) (fun z => z.2.2.2) (fun z => z.1 ≤ n ∧ Own 1 3 eN (spL i z.1) (.slice z.2.1 (spL i z.1).length z.2.2.1) z.2.2.2) ?_ (0, (none, 0, [])) ?_) ⟨rfl, rfl, rfl, trivial⟩ HS.nil
  · rintro ⟨k, y⟩ ⟨hk, hO⟩ ih; dsimp only at hk hO ih ⊢
    refine GE_seq ?_;refine GE_seq ?_;refine GE_plain (.st 0 (.st 1 (.st 2 .nil))) rfl ?_;refine GT_st rfl rfl rfl rfl (V_move rfl rfl) ?_;refine GT_st rfl rfl rfl rfl (V_move rfl rfl) ?_;refine GT_st rfl rfl rfl rfl (V_lss rfl rfl rfl) ?_;refine GT_nil ?_;refine GE_cond rfl (fun q1 => ?_) (fun q1 => ?_)
    · have hkn : k < n := (by omega); have hsl := spL_len i k
      refine GE_skip ?_;refine GE_seq ?_;refine GE_block ?_;refine GE_plain (.st 0 (.st 1 (.ld 2 [] (.ld 3 [] (.ld 4 [] .nil))))) rfl ?_;refine GT_st rfl rfl rfl rfl (V_move rfl rfl) ?_;refine GT_st rfl rfl rfl rfl (V_move rfl rfl) ?_;refine GT_buildSlice (z := [_]) rfl rfl rfl rfl rfl Tryz.underlying38 zc_3 sz_3 (by decide) rfl rfl (fun _ => GR_nil) (fun b13 => ?_)
      refine GT_append (enc := eN) (l := spL i k) (m := [((i + k : Nat) : Int)]) rfl rfl rfl rfl rfl rfl rfl hO (fun w m => RdL.own' m eN_len) Tryz.underlying38 zc_3 sz_3 ⟨rfl, by decide⟩ by_3 ⟨by rw [hsl]; simp only [List.length_singleton]; omega, by rw [hsl]; simp only [List.length_singleton]; omega⟩ eN_len eN_one (fun _ _ _ _ => GR_nil) (fun A3 c3 I3 hO3 => ?_)
      refine GT_ldv rfl rfl rfl rfl rfl (V_assign rfl rfl) (GR_nil) ?_;refine GT_nil ?_;refine GE_inBlock ?_;refine GE_slots (L' := [(0, _), (1, _), (5, _)]) ⟨rfl, rfl, rfl, trivial⟩ ?_;refine GE_plain (.st 0 (.st 1 (.ld 2 [] .nil))) rfl ?_;refine GT_st rfl rfl rfl rfl (V_move rfl rfl) ?_;refine GT_st rfl rfl rfl rfl (V_add rfl rfl rfl (wrap_i64 (by omega))) ?_;refine GT_ldv rfl rfl rfl rfl rfl (V_assign rfl rfl) (GR_nil) ?_;refine GT_nil ?_
      exact GE_to (ih (k + 1, (A3, c3, I3)) ⟨by dsimp only; omega, by dsimp only; rw [spL_succ]; exact hO3⟩ (by dsimp only; omega)) ⟨lookI rfl (by dsimp only; omega), rfl, by dsimp only; rw [spL_succ]; rfl, trivial⟩ HS.last
    · obtain rfl : k = n := (by omega)
      refine GE_exit rfl ?_;refine GE_seq ?_;refine GE_slots (L' := [(5, _)]) ⟨rfl, trivial⟩ ?_;refine GE_plain (.st 0 (.st 1 .nil)) rfl ?_;refine GT_st rfl rfl rfl rfl (V_move rfl rfl) ?_;refine GT_st rfl rfl rfl rfl (V_assign rfl rfl) ?_;refine GT_nil ?_;refine GE_ret Tryz.func205 rfl (fun w hw => ?_)
      exact ⟨y, hO, rfl, hw.hs (C := cx Tryz.prog hm 0 0 _ none' fun _ _ => True) HS.last⟩
  · exact ⟨Nat.zero_le _, Own.nil⟩
theorem C_CloneI (h : RdL w 1 eN A l) (hA : A.isSome = true) (hl : l.length ≤ 100000) : Con Tryz.prog 90 [.slice A l.length c] w (fun y : Option Addr × Nat × Items => Own 1 3 eN l (.slice y.1 l.length y.2.1) y.2.2) (fun y => .slice y.1 l.length y.2.1) (fun y => y.2.2) := by
  obtain ⟨a, rfl⟩ := Option.isSome_iff_exists.1 hA
  refine Ret_of (vs := [_]) hm none' Tryz.func90 rfl Tryz.ntmps90 rfl ?_
  dsimp only [slotsOf]
  refine GE_seq ?_;refine GE_plain (.st 0 .nil) rfl ?_;refine GT_st rfl rfl rfl rfl (V_assign rfl rfl) ?_;refine GT_nil ?_;refine GE_seq ?_;refine GE_seq ?_;refine GE_plain (.st 0 (.st 1 .nil)) rfl ?_;refine GT_st rfl rfl rfl rfl (V_move rfl rfl) ?_;refine GT_st rfl rfl rfl rfl (V_eqlNilF rfl rfl rfl Tryz.underlying38) ?_;refine GT_nil ?_;refine GE_cond_f rfl ?_;refine GE_skip ?_;refine GE_seq ?_;refine GE_plain (.ld 0 [] (.st 1 (.ld 2 [] (.st 3 .nil)))) rfl ?_;refine GT_buildSlice (z := []) rfl rfl rfl rfl rfl Tryz.underlying38 zc_3 sz_3 (by decide) rfl rfl (fun _ => GR_nil) (fun b5 => ?_)
  have ho5 : Own 1 3 eN [] (.slice (some ⟨b5, 0, none⟩) 0 0) [(b5, blk [] 3)] := Own.lit rfl rfl (by decide)
  refine GT_st rfl rfl rfl rfl (V_move rfl rfl) ?_;refine GT_append (enc := eN) (l := []) (m := l) rfl rfl rfl rfl rfl rfl rfl ho5 (fun w m => h.sh m) Tryz.underlying38 zc_3 sz_3 ⟨rfl, by decide⟩ by_3 ⟨by simp only [List.length_nil]; omega, by simp only [List.length_nil]; omega⟩ eN_len eN_one (fun _ _ _ _ => GR_nil) (fun A3 c3 I3 hO3 => ?_)
  rw [List.nil_append] at hO3 ⊢
  refine GT_st rfl rfl rfl rfl (V_assign rfl rfl) ?_;refine GT_nil ?_;refine GE_ret Tryz.func90 rfl (fun w hw => ?_)
  exact ⟨(A3, c3, I3), hO3, rfl, hw.hs (C := cx Tryz.prog hm 0 0 _ none' fun _ _ => True) HS.last⟩
theorem C_isNaNI {x : Int} : Con0 Tryz.prog 365 [I x] w (.bool false) := by
  refine Ret_of (vs := [_]) hm none' Tryz.func365 rfl Tryz.ntmps365 rfl ?_
  dsimp only [slotsOf]
  refine GE_seq ?_;refine GE_plain (.st 0 .nil) rfl ?_;refine GT_st rfl rfl rfl rfl (V_assign rfl rfl) ?_;refine GT_nil ?_;refine GE_seq ?_;refine GE_plain (.st 0 (.st 1 (.st 2 (.st 3 .nil)))) rfl ?_;refine GT_st rfl rfl rfl rfl (V_move rfl rfl) ?_;refine GT_st rfl rfl rfl rfl (V_move rfl rfl) ?_;refine GT_st rfl rfl rfl rfl (V_isF (V_neq rfl rfl rfl) (fun q => q rfl)) ?_;refine GT_st rfl rfl rfl rfl (V_assign rfl rfl) ?_;refine GT_nil ?_;refine GE_ret Tryz.func365 rfl (fun w hw => ⟨?_, hw.nil⟩)
  rfl
theorem C_isNaN64 {x : Int} : Con0 Tryz.prog 242 [I x] w (.bool false) := by
  refine Ret_of (vs := [_]) hm none' Tryz.func242 rfl Tryz.ntmps242 rfl ?_
  dsimp only [slotsOf]
  refine GE_seq ?_;refine GE_plain (.st 0 .nil) rfl ?_;refine GT_st rfl rfl rfl rfl (V_assign rfl rfl) ?_;refine GT_nil ?_;refine GE_seq ?_;refine GE_plain (.st 0 (.st 1 (.st 2 (.st 3 .nil)))) rfl ?_;refine GT_st rfl rfl rfl rfl (V_move rfl rfl) ?_;refine GT_st rfl rfl rfl rfl (V_move rfl rfl) ?_;refine GT_st rfl rfl rfl rfl (V_isF (V_neq rfl rfl rfl) (fun q => q rfl)) ?_;refine GT_st rfl rfl rfl rfl (V_assign rfl rfl) ?_;refine GT_nil ?_;refine GE_ret Tryz.func242 rfl (fun w hw => ⟨?_, hw.nil⟩)
  rfl
theorem C_CompareI {x y : Int} : Con0 Tryz.prog 346 [I x, I y] w (I (cmpI x y)) := by
  refine Ret_of (vs := [_, _]) hm none' Tryz.func346 rfl Tryz.ntmps346 rfl ?_
  dsimp only [slotsOf]
  refine GE_seq ?_;refine GE_plain (.st 0 .nil) rfl ?_;refine GT_st rfl rfl rfl rfl (V_assign rfl rfl) ?_;refine GT_nil ?_;refine GE_seq ?_;refine GE_plain (.st 0 (.ld 1 [] (.st 2 .nil))) rfl ?_;refine GT_st rfl rfl rfl rfl (V_move rfl rfl) ?_;refine GT_call0 rfl rfl rfl rfl rfl rfl rfl rfl rn_365 (fun w hw => C_isNaNI) (GR_nil) ?_;refine GT_st rfl rfl rfl rfl (V_assign rfl rfl) ?_;refine GT_nil ?_;refine GE_seq ?_;refine GE_plain (.st 0 (.ld 1 [] (.st 2 .nil))) rfl ?_;refine GT_st rfl rfl rfl rfl (V_move rfl rfl) ?_;refine GT_call0 rfl rfl rfl rfl rfl rfl rfl rfl rn_365 (fun w hw => C_isNaNI) (GR_nil) ?_;refine GT_st rfl rfl rfl rfl (V_assign rfl rfl) ?_;refine GT_nil ?_;refine GE_seq ?_;refine GE_seq ?_;refine GE_slots (L' := [(0, _), (1, _), (5, _), (6, _)]) ⟨rfl, rfl, rfl, rfl, trivial⟩ ?_;refine GE_plain (.st 0 .nil) rfl ?_;refine GT_st rfl rfl rfl rfl (V_move rfl rfl) ?_;refine GT_nil ?_;refine GE_cond_f rfl ?_;refine GE_skip ?_;refine GE_seq ?_;refine GE_seq ?_;refine GE_plain (.st 0 .nil) rfl ?_;refine GT_st rfl rfl rfl rfl (V_move rfl rfl) ?_;refine GT_nil ?_;refine GE_cond_f rfl ?_;refine GE_skip ?_;refine GE_seq ?_;refine GE_seq ?_;refine GE_slots (L' := [(0, _), (1, _)]) ⟨rfl, rfl, trivial⟩ ?_;refine GE_plain (.st 0 (.st 1 (.st 2 .nil))) rfl ?_;refine GT_st rfl rfl rfl rfl (V_move rfl rfl) ?_;refine GT_st rfl rfl rfl rfl (V_move rfl rfl) ?_;refine GT_st rfl rfl rfl rfl (V_lss rfl rfl rfl) ?_;refine GT_nil ?_;refine GE_cond rfl (fun q1 => ?_) (fun q1 => ?_)
  · refine GE_seq ?_;refine GE_slots (L' := []) trivial ?_;refine GE_plain (.st 0 .nil) rfl ?_;refine GT_st rfl rfl rfl rfl (V_assign rfl rfl) ?_;refine GT_nil ?_;refine GE_ret Tryz.func346 rfl (fun w hw => ⟨?_, hw.nil⟩)
    rw [cmpI, if_pos q1]
  · refine GE_skip ?_;refine GE_seq ?_;refine GE_seq ?_;refine GE_plain (.st 0 (.st 1 (.st 2 .nil))) rfl ?_;refine GT_st rfl rfl rfl rfl (V_move rfl rfl) ?_;refine GT_st rfl rfl rfl rfl (V_move rfl rfl) ?_;refine GT_st rfl rfl rfl rfl (V_gtr rfl rfl rfl) ?_;refine GT_nil ?_;refine GE_cond rfl (fun q2 => ?_) (fun q2 => ?_)
    · refine GE_seq ?_;refine GE_slots (L' := []) trivial ?_;refine GE_plain (.st 0 .nil) rfl ?_;refine GT_st rfl rfl rfl rfl (V_assign rfl rfl) ?_;refine GT_nil ?_;refine GE_ret Tryz.func346 rfl (fun w hw => ⟨?_, hw.nil⟩)
      rw [cmpI, if_neg q1, if_pos q2]
    · refine GE_skip ?_;refine GE_seq ?_;refine GE_slots (L' := []) trivial ?_;refine GE_plain (.st 0 .nil) rfl ?_;refine GT_st rfl rfl rfl rfl (V_assign rfl rfl) ?_;refine GT_nil ?_;refine GE_ret Tryz.func346 rfl (fun w hw => ⟨?_, hw.nil⟩)
      rw [cmpI, if_neg q1, if_neg q2]
theorem C_Compare64 {x y : Int} : Con0 Tryz.prog 345 [I x, I y] w (I (cmpI x y)) := by
  refine Ret_of (vs := [_, _]) hm none' Tryz.func345 rfl Tryz.ntmps345 rfl ?_
  dsimp only [slotsOf]
  refine GE_seq ?_;refine GE_plain (.st 0 .nil) rfl ?_;refine GT_st rfl rfl rfl rfl (V_assign rfl rfl) ?_;refine GT_nil ?_;refine GE_seq ?_;refine GE_plain (.st 0 (.ld 1 [] (.st 2 .nil))) rfl ?_;refine GT_st rfl rfl rfl rfl (V_move rfl rfl) ?_;refine GT_call0 rfl rfl rfl rfl rfl rfl rfl rfl rn_242 (fun w hw => C_isNaN64) (GR_nil) ?_;refine GT_st rfl rfl rfl rfl (V_assign rfl rfl) ?_;refine GT_nil ?_;refine GE_seq ?_;refine GE_plain (.st 0 (.ld 1 [] (.st 2 .nil))) rfl ?_;refine GT_st rfl rfl rfl rfl (V_move rfl rfl) ?_;refine GT_call0 rfl rfl rfl rfl rfl rfl rfl rfl rn_242 (fun w hw => C_isNaN64) (GR_nil) ?_;refine GT_st rfl rfl rfl rfl (V_assign rfl rfl) ?_;refine GT_nil ?_;refine GE_seq ?_;refine GE_seq ?_;refine GE_slots (L' := [(0, _), (1, _), (5, _), (6, _)]) ⟨rfl, rfl, rfl, rfl, trivial⟩ ?_;refine GE_plain (.st 0 .nil) rfl ?_;refine GT_st rfl rfl rfl rfl (V_move rfl rfl) ?_;refine GT_nil ?_;refine GE_cond_f rfl ?_;refine GE_skip ?_;refine GE_seq ?_;refine GE_seq ?_;refine GE_plain (.st 0 .nil) rfl ?_;refine GT_st rfl rfl rfl rfl (V_move rfl rfl) ?_;refine GT_nil ?_;refine GE_cond_f rfl ?_;refine GE_skip ?_;refine GE_seq ?_;refine GE_seq ?_;refine GE_slots (L' := [(0, _), (1, _)]) ⟨rfl, rfl, trivial⟩ ?_;refine GE_plain (.st 0 (.st 1 (.st 2 .nil))) rfl ?_;refine GT_st rfl rfl rfl rfl (V_move rfl rfl) ?_;refine GT_st rfl rfl rfl rfl (V_move rfl rfl) ?_;refine GT_st rfl rfl rfl rfl (V_lss rfl rfl rfl) ?_;refine GT_nil ?_;refine GE_cond rfl (fun q1 => ?_) (fun q1 => ?_)
  · refine GE_seq ?_;refine GE_slots (L' := []) trivial ?_;refine GE_plain (.st 0 .nil) rfl ?_;refine GT_st rfl rfl rfl rfl (V_assign rfl rfl) ?_;refine GT_nil ?_;refine GE_ret Tryz.func345 rfl (fun w hw => ⟨?_, hw.nil⟩)
    rw [cmpI, if_pos q1]
  · refine GE_skip ?_;refine GE_seq ?_;refine GE_seq ?_;refine GE_plain (.st 0 (.st 1 (.st 2 .nil))) rfl ?_;refine GT_st rfl rfl rfl rfl (V_move rfl rfl) ?_;refine GT_st rfl rfl rfl rfl (V_move rfl rfl) ?_;refine GT_st rfl rfl rfl rfl (V_gtr rfl rfl rfl) ?_;refine GT_nil ?_;refine GE_cond rfl (fun q2 => ?_) (fun q2 => ?_)
    · refine GE_seq ?_;refine GE_slots (L' := []) trivial ?_;refine GE_plain (.st 0 .nil) rfl ?_;refine GT_st rfl rfl rfl rfl (V_assign rfl rfl) ?_;refine GT_nil ?_;refine GE_ret Tryz.func345 rfl (fun w hw => ⟨?_, hw.nil⟩)
      rw [cmpI, if_neg q1, if_pos q2]
    · refine GE_skip ?_;refine GE_seq ?_;refine GE_slots (L' := []) trivial ?_;refine GE_plain (.st 0 .nil) rfl ?_;refine GT_st rfl rfl rfl rfl (V_assign rfl rfl) ?_;refine GT_nil ?_;refine GE_ret Tryz.func345 rfl (fun w hw => ⟨?_, hw.nil⟩)
      rw [cmpI, if_neg q1, if_neg q2]
theorem C_Or {x y : Int} (h : RdL w 1 eN A [x, y]) : Con0 Tryz.prog 344 [.slice A 2 c] w (I (if x = 0 then y else x)) := by
  have hl0 : 0 < ([x, y] : List Int).length := (show 0 < 2 by decide)
  refine Ret_of (vs := [_]) hm none' Tryz.func344 rfl Tryz.ntmps344 rfl ?_
  dsimp only [slotsOf]
  refine GE_seq ?_;refine GE_plain (.st 0 .nil) rfl ?_;refine GT_st rfl rfl rfl rfl (V_assign rfl rfl) ?_;refine GT_nil ?_;refine GE_seq ?_;refine GE_plain (.st 0 .nil) rfl ?_;refine GT_st rfl rfl rfl rfl (V_assign rfl rfl) ?_;refine GT_nil ?_;refine GE_seq ?_;refine GE_seq ?_;refine GE_plain (.st 0 (.st 1 (.st 2 .nil))) rfl ?_;refine GT_st rfl rfl rfl rfl (V_move rfl rfl) ?_;refine GT_st rfl rfl rfl rfl (V_len rfl Tryz.underlying38 rfl) ?_;refine GT_st rfl rfl rfl rfl (V_move rfl rfl) ?_;refine GT_nil ?_;refine GE_block ?_;refine GE_to (GE_loop (ι := Nat) (fun k => 2 - k) (fun k => [(3, I 0), (6, .slice A 2 c), (7, I 2), (8, I k)]) (fun k => []) (fun k => k ≤ 2 ∧ ∀ j, j < k → ([x, y] : List Int).getD j default = 0) ?_ 0 ?_) ⟨rfl, rfl, rfl, rfl, trivial⟩ HS.nil
  · rintro k ⟨hk, hall⟩ ih
    refine GE_seq ?_;refine GE_plain (.st 0 .nil) rfl ?_;refine GT_st rfl rfl rfl rfl (V_lss rfl rfl rfl) ?_;refine GT_nil ?_;refine GE_seq ?_;refine GE_cond rfl (fun q1 => ?_) (fun q1 => ?_)
    · have hkl : k < ([x, y] : List Int).length := (show k < 2 by omega)
      refine GE_skip ?_;refine GE_seq ?_;refine GE_block ?_;refine GE_seq ?_;refine GE_plain (.st 0 (.st 1 (.st 2 .nil))) rfl ?_;refine GT_st rfl rfl rfl rfl (V_index rfl rfl rfl Tryz.underlying38 sz_3 (k := k) rfl hkl (h.isSome hkl)) ?_;refine GT_st rfl rfl rfl rfl (V_load rfl rfl ag_3 (h.at0 noM hkl rfl)) ?_;refine GT_st rfl rfl rfl rfl (V_assign rfl rfl) ?_;refine GT_nil ?_;refine GE_seq ?_;refine GE_plain (.st 0 (.st 1 (.st 2 .nil))) rfl ?_;refine GT_st rfl rfl rfl rfl (V_move rfl rfl) ?_;refine GT_st rfl rfl rfl rfl (V_move rfl rfl) ?_;refine GT_st rfl rfl rfl rfl (V_neq rfl rfl rfl) ?_;refine GT_nil ?_;refine GE_condNot rfl (fun q2 => ?_) (fun q2 => ?_)
      · refine GE_seq ?_;refine GE_slots (L' := [(5, _)]) ⟨rfl, trivial⟩ ?_;refine GE_plain (.st 0 (.st 1 .nil)) rfl ?_;refine GT_st rfl rfl rfl rfl (V_move rfl rfl) ?_;refine GT_st rfl rfl rfl rfl (V_assign rfl rfl) ?_;refine GT_nil ?_;refine GE_ret Tryz.func344 rfl (fun w hw => ⟨?_, hw.nil⟩)
        rcases (show k = 0 ∨ k = 1 by omega) with rfl | rfl; (rw [if_neg (show ¬ x = 0 from q2)]; rfl); (rw [if_pos (show x = 0 from hall 0 (by decide))]; rfl)
      · refine GE_skip ?_;refine GE_inBlock ?_;refine GE_slots (L' := [(3, _), (6, _), (7, _), (8, _)]) ⟨rfl, rfl, rfl, rfl, trivial⟩ ?_;refine GE_plain (.st 0 (.ld 1 [] .nil)) rfl ?_;refine GT_st rfl rfl rfl rfl (V_add rfl rfl rfl (wrap_i64 (by omega))) ?_;refine GT_ldv rfl rfl rfl rfl rfl (V_move rfl rfl) (GR_nil) ?_;refine GT_nil ?_
        exact GE_to (ih (k + 1) ⟨by omega, fun j hj => by by_cases e : j = k; (subst e; exact q2); exact hall j (by omega)⟩ (by omega)) ⟨rfl, rfl, rfl, rfl, trivial⟩ HS.nil
    · obtain rfl : k = 2 := (by omega)
      refine GE_exit rfl ?_;refine GE_seq ?_;refine GE_slots (L' := [(3, _)]) ⟨rfl, trivial⟩ ?_;refine GE_plain (.st 0 (.st 1 .nil)) rfl ?_;refine GT_st rfl rfl rfl rfl (V_move rfl rfl) ?_;refine GT_st rfl rfl rfl rfl (V_assign rfl rfl) ?_;refine GT_nil ?_;refine GE_ret Tryz.func344 rfl (fun w hw => ⟨?_, hw.nil⟩)
      rw [if_pos (show x = 0 from hall 0 (by decide)), show y = 0 from hall 1 (by decide)]
  · exact ⟨Nat.zero_le _, fun j hj => by omega⟩
variable {f : Fmt} {ts : List Trk}
theorem C_usual {n : Nat} {x y : Int} (hn : n = ts.length) (hb : BlkAt w g (plC f A n c) 304) (h : RdL w 3 eTrk A ts) (hx : 0 ≤ x ∧ x < ts.length) (hy : 0 ≤ y ∧ y < ts.length) : Con0 Tryz.prog 321 [ptr g 0, I x, I y] w (I (usl ts x y)) := by
  subst hn
  refine Ret_of (vs := [_, _, _]) hm none' Tryz.func321 rfl Tryz.ntmps321 rfl ?_
  dsimp only [slotsOf]
  refine GE_seq ?_;refine GE_plain (.st 0 .nil) rfl ?_;refine GT_st rfl rfl rfl rfl (V_assign rfl rfl) ?_;refine GT_nil ?_;refine GE_seq ?_;refine GE_drawn (.st 0 (.st 1 (.st 2 (.st 3 (.st 4 (.st 5 (.st 6 (.st 7 (.st 8 (.st 9 (.st 10 (.st 11 (.st 12 (.st 13 (.st 14 (.st 15 (.st 17 (.st 18 (.ld 16 [17, 18] (.ld 19 [] (.ld 20 [] (.ld 21 [] (.st 22 .nil))))))))))))))))))))))) [16, 19, 20, 21] (by decide +kernel) ?_;refine GT_st rfl rfl rfl rfl (V_move rfl rfl) ?_;refine GT_st rfl rfl rfl rfl (V_nilCheck rfl rfl) ?_;refine GT_st rfl rfl rfl rfl (V_field rfl rfl fo_304_1) ?_;refine GT_st rfl rfl rfl rfl (V_load rfl rfl ag_95 (CellAt.old (hb.cell rfl) (noM _))) ?_;refine GT_st rfl rfl rfl rfl (V_move rfl rfl) ?_;refine GT_st rfl rfl rfl rfl (V_index rfl rfl rfl Tryz.underlying95 sz_301 (k := y.toNat) (by omega) (by omega) (h.isSome (k := y.toNat) (by omega))) ?_;refine GT_st rfl rfl rfl rfl (V_fieldA rfl rfl fo_301_2) ?_;refine GT_st rfl rfl rfl rfl (V_load rfl rfl ag_2 (show CellAt _ _ _ (I (lst ts y)) from h.at1 (k := y.toNat) noM (by omega) rfl)) ?_;refine GT_st rfl rfl rfl rfl (V_move rfl rfl) ?_;refine GT_st rfl rfl rfl rfl (V_nilCheck rfl rfl) ?_;refine GT_st rfl rfl rfl rfl (V_field rfl rfl fo_304_1) ?_;refine GT_st rfl rfl rfl rfl (V_load rfl rfl ag_95 (CellAt.old (hb.cell rfl) (noM _))) ?_;refine GT_st rfl rfl rfl rfl (V_move rfl rfl) ?_;refine GT_st rfl rfl rfl rfl (V_index rfl rfl rfl Tryz.underlying95 sz_301 (k := x.toNat) (by omega) (by omega) (h.isSome (k := x.toNat) (by omega))) ?_;refine GT_st rfl rfl rfl rfl (V_fieldA rfl rfl fo_301_2) ?_;refine GT_st rfl rfl rfl rfl (V_load rfl rfl ag_2 (show CellAt _ _ _ (I (lst ts x)) from h.at1 (k := x.toNat) noM (by omega) rfl)) ?_;refine GT_st rfl rfl rfl rfl (V_move rfl rfl) ?_
  refine GT_st rfl rfl rfl rfl (V_move rfl rfl) ?_;refine GT_call0 rfl rfl rfl rfl rfl rfl rfl rfl rn_345 (fun w hw => C_Compare64) (GR_cons rfl rfl rfl rfl (V_move rfl rfl) (GR_cons rfl rfl rfl rfl (V_move rfl rfl) (GR_nil))) ?_;refine GT_call0 rfl rfl rfl rfl rfl rfl rfl rfl rn_346 (fun w hw => C_CompareI) (GR_nil) ?_;refine GT_buildSlice (z := [_, _]) rfl rfl rfl rfl rfl Tryz.underlying38 zc_3 sz_3 (by decide) rfl rfl (fun _ => GR_nil) (fun b27 => ?_)
  refine GT_call0 rfl rfl rfl rfl rfl rfl rfl rfl rn_344 (fun w hw => C_Or (RdL.own' (l := [cmpI (lst ts y) (lst ts x), cmpI x y]) hw eN_len)) (GR_nil) ?_;refine GT_st rfl rfl rfl rfl (V_assign rfl rfl) ?_;refine GT_nil ?_;refine GE_ret Tryz.func321 rfl (fun w hw => ⟨?_, hw.nil⟩)
  rfl
end
end Go.Proofs.YtpbflnfcgcldkaaGreatDoor.Side
