/- Texts of this proof, one behind the other: TaL, Ta1, Fb, Ua1, Tq1, Tq2, Tq3, Tq4, Tf1. -/
import Derived.Test.YtncleikbggjmjaaGreatDoorMt0
import Derived.Test.YtncleikbggjmjaaGreatDoorProg
import Derived.Shelf.Strings.SlTrimAscii
import Derived.Ground.NamesProg
import Derived.Test.YtncleikbggjmjaaGreatDoorMt11
import Derived.Test.YtncleikbggjmjaaGreatDoorMt15
import Derived.Test.YtncleikbggjmjaaGreatDoorMt12
import Derived.Test.YtncleikbggjmjaaGreatDoorMt13
/-
  DERIVED: THE SHELF's CONTRACTS AT THIS DUMP, IN PLAIN WORDS (tools/lay-plain.mjs out of 'YtncleikbggjmjaaGreatDoorShelf.lean', which tools/lay-shelf.mjs wrote): THE SAME DECLARATIONS UNDER THE SAME NAMES: 'import', 'namespace', 'open', 'def', 'theorem' AND NOTHING ELSE: no command of the shelf's: FOR A HAND-IN. Each laying: the table of numbers ('.._ren') and one theorem, a field a fact of the dump's own or the kernel's comparison; each contract: ONE APPLICATION.
-/
namespace Go.Proofs
open Go.Shelf
def Tryz.lays160_ren : Go.Shelf.Ren := ⟨fun | 160 => 174 | 232 => 176 | 231 => 175 | 227 => 177 | 234 => 179 | 233 => 178 | 236 => 181 | 235 => 180 | 228 => 182 | 271 => 185 | 151 => 184 | 197 => 183 | 120 => 188 | 152 => 187 | 260 => 186 | 137 => 189 | 119 => 190 | 224 => 191 | 225 => 192 | 217 => 193 | 266 => 194 | n => n, fun | 9 => 9 | 4 => 4 | 3 => 3 | 5 => 5 | 117 => 324 | 116 => 323 | 0 => 0 | 124 => 327 | 21 => 21 | 105 => 329 | 46 => 169 | 119 => 333 | 139 => 336 | 138 => 335 | n => n, fun | 3 => 0 | 4 => 1 | n => n⟩
theorem Tryz.lays160 : Go.Proofs.Lays.n160 Tryz.prog Tryz.lays160_ren := {
  mixed := by kernel_rfl
  f119 := Tryz.func190.trans (congrArg some (by kernel_rfl))
  f120 := Tryz.func188.trans (congrArg some (by kernel_rfl))
  f137 := Tryz.func189.trans (congrArg some (by kernel_rfl))
  f151 := Tryz.func184.trans (congrArg some (by kernel_rfl))
  f152 := Tryz.func187.trans (congrArg some (by kernel_rfl))
  f160 := Tryz.func174.trans (congrArg some (by kernel_rfl))
  f197 := Tryz.func183.trans (congrArg some (by kernel_rfl))
  f217 := Tryz.func193.trans (congrArg some (by kernel_rfl))
  f224 := Tryz.func191.trans (congrArg some (by kernel_rfl))
  f225 := Tryz.func192.trans (congrArg some (by kernel_rfl))
  f227 := Tryz.func177.trans (congrArg some (by kernel_rfl))
  f228 := Tryz.func182.trans (congrArg some (by kernel_rfl))
  f231 := Tryz.func175.trans (congrArg some (by kernel_rfl))
  f232 := Tryz.func176.trans (congrArg some (by kernel_rfl))
  f233 := Tryz.func178.trans (congrArg some (by kernel_rfl))
  f234 := Tryz.func179.trans (congrArg some (by kernel_rfl))
  f235 := Tryz.func180.trans (congrArg some (by kernel_rfl))
  f236 := Tryz.func181.trans (congrArg some (by kernel_rfl))
  f260 := Tryz.func186.trans (congrArg some (by kernel_rfl))
  f266 := Tryz.func194.trans (congrArg some (by kernel_rfl))
  f271 := Tryz.func185.trans (congrArg some (by kernel_rfl))
  t0 := Tryz.underlying0
  a0 := Tryz.isAgg0
  z0 := Tryz.sizeOf0
  v0 := Tryz.zeroValue0
  t3 := Tryz.underlying3
  a3 := Tryz.isAgg3
  z3 := Tryz.sizeOf3
  v3 := Tryz.zeroValue3
  t4 := Tryz.underlying4
  a4 := Tryz.isAgg4
  z4 := Tryz.sizeOf4
  v4 := Tryz.zeroValue4
  t5 := Tryz.underlying5
  a5 := Tryz.isAgg5
  z5 := Tryz.sizeOf5
  v5 := Tryz.zeroValue5
  t9 := Tryz.underlying9
  a9 := Tryz.isAgg9
  z9 := Tryz.sizeOf9
  v9 := Tryz.zeroValue9
  t21 := Tryz.underlying21
  a21 := Tryz.isAgg21
  z21 := Tryz.sizeOf21
  v21 := Tryz.zeroValue21
  t46 := Tryz.underlying169
  a46 := Tryz.isAgg169
  z46 := Tryz.sizeOf169
  v46 := Tryz.zeroValue169
  t105 := Tryz.underlying329
  a105 := Tryz.isAgg329
  z105 := Tryz.sizeOf329
  v105 := Tryz.zeroValue329
  t116 := Tryz.underlying323
  a116 := Tryz.isAgg323
  z116 := Tryz.sizeOf323
  t117 := Tryz.underlying324
  a117 := Tryz.isAgg324
  z117 := Tryz.sizeOf324
  v117 := Tryz.zeroValue324
  t119 := Tryz.underlying333
  a119 := Tryz.isAgg333
  z119 := Tryz.sizeOf333
  t124 := Tryz.underlying327
  a124 := Tryz.isAgg327
  z124 := Tryz.sizeOf327
  v124 := Tryz.zeroValue327
  t138 := Tryz.underlying335
  a138 := Tryz.isAgg335
  z138 := Tryz.sizeOf335
  v138 := Tryz.zeroValue335
  t139 := Tryz.underlying336
  a139 := Tryz.isAgg336
  z139 := Tryz.sizeOf336
  v139 := Tryz.zeroValue336
  g3 := by kernel_rfl
  g4 := by kernel_rfl }
end Go.Proofs
/- Samples, names, takes: which are valid, walked. -/
namespace Go.Proofs.YtncleikbggjmjaaGreatDoor.Take
open Go.Sx Go.Proofs Go.RowKit
def cutB : List UInt8 := [97, 98, 99, 100, 101, 102, 103, 104, 105, 106, 107, 108, 109, 110, 111, 112, 113, 114, 115, 116, 117, 118, 119, 120, 121, 122, 48, 49, 50, 51, 52, 53, 54, 55, 56, 57]
theorem nmB_cut : ∀ b : UInt8, cutB.contains b = nmB b := by
  have h : ∀ n : Fin 256, cutB.contains (UInt8.ofNat n.val) = nmB (UInt8.ofNat n.val) := by decide +kernel
  intro b
  have := h ⟨b.toNat, b.toNat_lt⟩
  simpa using this
theorem dropWhile_nil {α : Type} {f : α → Bool} {l : List α} : l.dropWhile f = [] ↔ l.all f = true := by
  induction l with
  | nil => simp
  | cons x l ih =>
    rw [List.dropWhile_cons, List.all_cons]
    by_cases h : f x = true
    · rw [if_pos h, h, Bool.true_and]; exact ih
    · rw [if_neg h]; simp [h]
theorem trimS_nil {l cs : List UInt8} : Go.Lib.trimS l cs = [] ↔ l.all (cs.contains ·) = true := by
  unfold Go.Lib.trimS Go.Lib.trimLeftS Go.Lib.trimRightS
  rw [dropWhile_nil]
  constructor
  · intro h
    rw [List.all_reverse] at h
    by_cases hn : l.reverse.dropWhile (cs.contains ·) = []
    · rw [dropWhile_nil, List.all_reverse] at hn; exact hn
    · have h1 := List.head_dropWhile_not (p := (cs.contains ·)) (l := l.reverse) hn
      rw [List.all_eq_true] at h
      have h2 := h _ (List.head_mem hn)
      rw [h2] at h1; cases h1
  · intro h
    rw [dropWhile_nil.2 (by rw [List.all_reverse]; exact h)]; rfl
theorem str_nil {s : ByteArray} : s = ⟨#[]⟩ ↔ s.size = 0 := by
  constructor
  · rintro rfl; rfl
  · intro h
    obtain ⟨⟨l⟩⟩ := s
    have : l.length = 0 := h
    rw [List.length_eq_zero_iff.1 this]
theorem SH.ofBelow {w w' : World} (h : Below w.heap.size w w') : SH w none' [] w' := ⟨h.os, h.tape, h.output, h.size, fun k hk _ => h.block k hk, by simp, by simp⟩
theorem C_Trim {s : ByteArray} {w : World} (hs : s.size ≤ maxLen) : Con0 Tryz.prog 174 [.string s, .string ⟨cutB.toArray⟩] w (.string ⟨(Go.Lib.trimS s.data.toList cutB).toArray⟩) := by
  unfold maxLen at hs
  have h := Any.strings_Trim_laid Tryz.lays160 (by kernel_rfl) s ⟨cutB.toArray⟩ w (by omega) (by decide) (ascii_of_all (by decide))
  refine Calls.mono h fun e w' he => ?_
  obtain ⟨rfl, hb⟩ := he
  exact ⟨rfl, SH.ofBelow hb⟩
section
variable {w : World}
theorem C_between {x lo hi : Int} : Con0 Tryz.prog 144 [I x, I lo, I hi] w (.bool (betw x lo hi)) := by
  have hd : ∀ q : Bool, (betw x lo hi = true ↔ q = true) → Value.bool q = Value.bool (betw x lo hi) := fun q hq => congrArg Value.bool (by rw [Bool.eq_iff_iff, hq])
  refine Ret_of (vs := [_, _, _]) hm none' Tryz.func144 rfl Tryz.ntmps144 rfl ?_
  dsimp only [slotsOf]
  refine Zp 1 [] rfl ?_;refine Zv rfl ?_;refine GT_nil ?_;refine Zp 9 [] rfl ?_;refine Zr 2 rfl ?_;refine GT_S rfl (V_geq rfl rfl rfl) ?_;refine Zv rfl ?_;refine GT_split (d := 10) rfl (fun h1 => ?_) (fun h1 => ?_)
  · refine Zr 2 rfl ?_;refine GT_S rfl (V_leq rfl rfl rfl) ?_;refine Zr 2 rfl ?_;refine GT_nil ?_;refine GE_ret Tryz.func144 rfl (fun w hw => ⟨?_, hw.nil⟩)
    refine hd _ ?_;rw [betw_iff];(first | (simp; done) | (simp; omega))
  · refine Zr 5 rfl ?_;refine GT_nil ?_;refine GE_ret Tryz.func144 rfl (fun w hw => ⟨?_, hw.nil⟩)
    refine hd _ ?_;rw [betw_iff];(first | (simp; done) | (simp; omega))
theorem C_valid {x : Sam} : Con0 Tryz.prog 129 [.agg #[I x.l, I x.r]] w (.bool x.ok) := by
  refine Ret_of (vs := [_]) hm none' Tryz.func129 rfl Tryz.ntmps129 rfl ?_
  dsimp only [slotsOf]
  refine Zp 2 [0] rfl ?_;refine Zx [_, _] rfl rfl fun b1 => ?_;refine Zv rfl ?_;refine GT_nil ?_;refine Zp 9 [2, 6] rfl ?_;refine Zg rfl fo_198_0 rfl ag_2 rfl ?_;refine Zc rfl rn_144 (fun w hw => C_between) GR_nil ?_;refine Zv rfl ?_;refine GT_splitB (d := 6) rfl (fun h1 => ?_) (fun h1 => ?_)
  · refine Zg rfl fo_198_1 rfl ag_2 rfl ?_;refine Zc rfl rn_144 (fun w hw => C_between) GR_nil ?_;refine Zr 2 rfl ?_;refine GT_nil ?_;refine GE_ret Tryz.func129 rfl (fun w hw => ⟨?_, hw.nil⟩)
    unfold Sam.ok; simp_all
  · refine Zr 2 rfl ?_;refine GT_skip_ld rfl rfl rfl rfl rfl (by decide) rfl rfl rfl GR_nil ?_;refine Zr 2 rfl ?_;refine GT_nil ?_;refine GE_ret Tryz.func129 rfl (fun w hw => ⟨?_, hw.nil⟩)
    unfold Sam.ok; simp_all
theorem C_isName {s : ByteArray} (hs : s.size ≤ maxLen) : Con0 Tryz.prog 170 [.string s] w (.bool (isNm s)) := by
  have e0 := str_nil (s := s)
  have e1 : (⟨(Go.Lib.trimS s.data.toList cutB).toArray⟩ : ByteArray) = ⟨#[]⟩ ↔ s.data.toList.all nmB = true := by
    have : (cutB.contains ·) = nmB := funext nmB_cut
    rw [← this, ← trimS_nil]
    constructor
    · intro h; injection h with h; simpa using h
    · intro h; rw [h]
  refine Ret_of (vs := [_]) hm none' Tryz.func170 rfl Tryz.ntmps170 rfl ?_
  dsimp only [slotsOf]
  refine Zp 1 [] rfl ?_;refine Zv rfl ?_;refine GT_nil ?_;refine Zp 13 [9] rfl ?_;refine Zv rfl ?_;refine GT_S rfl (V_neqStr rfl rfl rfl) ?_;refine Zv rfl ?_;refine GT_splitNot (d := 5) rfl (fun h1 => ?_) (fun h1 => ?_)
  · refine Zv rfl ?_;refine GT_S rfl (V_len_str rfl Tryz.underlying9 rfl) ?_;refine GT_S rfl (V_leq rfl rfl rfl) ?_;refine Zr 2 rfl ?_;refine GT_split (d := 10) rfl (fun h2 => ?_) (fun h2 => ?_)
    · refine Zv rfl ?_;refine Zc rfl rn_174 (fun w hw => C_Trim hs) GR_nil ?_;refine GT_S rfl (V_eqlStr rfl rfl rfl) ?_;refine Zr 2 rfl ?_;refine GT_nil ?_;refine GE_ret Tryz.func170 rfl (fun w hw => ⟨?_, hw.nil⟩)
      refine congrArg Value.bool ?_;unfold isNm;rw [Bool.eq_iff_iff];simp only [Bool.and_eq_true, decide_eq_true_iff, Bool.false_eq_true, false_iff, e1];rw [e0] at h1;first | omega | exact ⟨fun h => ⟨⟨by omega, by omega⟩, h⟩, fun h => h.2⟩
    · refine Zv rfl ?_;refine GT_skip_ld rfl rfl rfl rfl rfl (by decide) rfl rfl rfl GR_nil ?_;refine Zr 3 rfl ?_;refine GT_nil ?_;refine GE_ret Tryz.func170 rfl (fun w hw => ⟨?_, hw.nil⟩)
      refine congrArg Value.bool ?_;unfold isNm;rw [Bool.eq_iff_iff];simp only [Bool.and_eq_true, decide_eq_true_iff, Bool.false_eq_true, false_iff, e1];rw [e0] at h1;first | omega | exact ⟨fun h => ⟨⟨by omega, by omega⟩, h⟩, fun h => h.2⟩
  · refine Zr 6 rfl ?_;refine GT_skip_ld rfl rfl rfl rfl rfl (by decide) rfl rfl rfl GR_nil ?_;refine Zr 3 rfl ?_;refine GT_nil ?_;refine GE_ret Tryz.func170 rfl (fun w hw => ⟨?_, hw.nil⟩)
    refine congrArg Value.bool ?_;unfold isNm;rw [Bool.eq_iff_iff];simp only [Bool.and_eq_true, decide_eq_true_iff, Bool.false_eq_true, false_iff, e1];rw [e0] at h1;first | omega | exact ⟨fun h => ⟨⟨by omega, by omega⟩, h⟩, fun h => h.2⟩
variable {A : Option Addr} {c : Nat}
theorem C_CheckSamples {s : List Sam} (h : RdL w 2 eSam A s) : Con0 Tryz.prog 111 [.slice A s.length c] w (I (sErr s)) := by
  refine Ret_of (vs := [_]) hm none' Tryz.func111 rfl Tryz.ntmps111 rfl ?_
  dsimp only [slotsOf]
  refine Zp 1 [] rfl ?_;refine Zv rfl ?_;refine Zz ?_;refine Zp 3 [] rfl ?_;refine Zv rfl ?_;refine Zn rfl Tryz.underlying199 ?_;refine GT_S rfl (V_gtr rfl rfl rfl) ?_;refine GT_nil ?_;refine GE_cond rfl (fun h1 => ?_) (fun h1 => ?_)
  · refine Zq [] 1 [] rfl rfl ?_;refine Zv rfl ?_;refine GT_nil ?_;refine GE_ret Tryz.func111 rfl (fun w hw => ⟨?_, hw.nil⟩)
    rw [sErr, if_pos (by omega)]
  · refine GE_skip ?_;refine GE_seq ?_;refine Zq [0] 3 [] rfl rfl ?_;refine Zv rfl ?_;refine Zn rfl Tryz.underlying199 ?_;refine Zv rfl ?_;refine GT_nil ?_;refine GE_block ?_;refine GE_to (GE_loop (ι := Nat) (fun k => s.length - k) (fun k => [(8, .slice A s.length c), (9, I s.length), (10, I k)]) (fun k => []) (fun k => k ≤ s.length ∧ ∀ i, i < k → Sam.ok (s.getD i default) = true) ?_ 0 ?_) ⟨rfl, rfl, rfl, trivial⟩ HS.nil
    · rintro k ⟨hk, hall⟩ ih
      refine Zp 1 [] rfl ?_;refine GT_S rfl (V_lss rfl rfl rfl) ?_;refine Zz ?_;refine GE_cond rfl (fun h2 => ?_) (fun h2 => ?_)
      · have hkl : k < s.length := (by omega)
        refine GE_skip ?_;refine GE_seq ?_;refine GE_block ?_;refine Zp 4 [2, 3] rfl ?_;refine GT_S rfl (V_index rfl rfl rfl Tryz.underlying199 sz_198 (k := k) rfl hkl (h.isSome hkl)) ?_;refine GT_S rfl (V_loadN (vs := [_, _]) rfl rfl ag_198 sz_198 rfl (h.ats noM hkl)) ?_;refine Zb rfl zc_198 fun b4 => ?_;refine ZS [_, _] [_, _] rfl rfl sz_198 rfl rfl rfl ?_;refine GT_nil ?_;refine Zp 3 [1] rfl ?_;refine ZN [_, _] rfl ag_198 sz_198 rfl rfl ?_;refine Zc rfl rn_129 (fun w hw => C_valid) GR_nil ?_;refine GT_S rfl (V_notB rfl rfl) ?_;refine GT_nil ?_;refine GE_condNotB rfl (fun h3 => ?_) (fun h3 => ?_)
        · refine Zq [] 1 [] rfl rfl ?_;refine Zv rfl ?_;refine GT_nil ?_;refine GE_ret Tryz.func111 rfl (fun w hw => ⟨?_, hw.nil⟩)
          rw [sErr, if_neg (by omega), if_neg (by rw [all_split hkl h3]; decide)]
        · refine GE_skip ?_;refine GE_inBlock ?_;refine Zs [8, 9, 10] rfl ?_;refine ZP 2 [1] rfl ?_;refine Za rfl (by omega) ?_;refine Zw rfl ?_;refine GT_nil ?_
          exact GE_to (ih (k + 1) ⟨by omega, fun i hi => by rcases Nat.lt_or_ge i k with r | r; exact hall i r; rw [show i = k by omega]; exact h3⟩ (by omega)) ⟨rfl, rfl, rfl, trivial⟩ HS.nil
      · refine GE_exit rfl ?_;refine Zq [] 1 [] rfl rfl ?_;refine Zv rfl ?_;refine GT_nil ?_;refine GE_ret Tryz.func111 rfl (fun w hw => ⟨?_, hw.nil⟩)
        rw [sErr, if_neg (by omega), if_pos (all_getD.2 fun i hi => hall i (by omega))]
    · exact ⟨Nat.zero_le _, fun i hi => absurd hi (Nat.not_lt_zero _)⟩
theorem C_CheckSamplesN {s : List Sam} {n : Nat} (hn : s.length = n) (h : RdL w 2 eSam A s) : Con0 Tryz.prog 111 [.slice A n c] w (I (sErr s)) := hn ▸ C_CheckSamples h
theorem C_checkTake {t : Tk} (h : RdL w 2 eSam t.A t.data) (hn : t.name.size ≤ maxLen) : Con0 Tryz.prog 161 [.agg #[.string t.name, .slice t.A t.data.length t.c]] w (I (tErr t)) := by
  have hq : tErr t = if sErr t.data = 6 then 6 else if isNm t.name = true ∧ t.data.length ≠ 0 then sErr t.data else 2 := by
    unfold tErr sErr
    by_cases h1 : 4096 < t.data.length
    · simp [h1]
    · by_cases h2 : t.data.all Sam.ok = true <;> by_cases h3 : isNm t.name = true <;> by_cases h4 : t.data.length = 0 <;> simp [h1, h2, h3, h4]
  refine Ret_of (vs := [_]) hm none' Tryz.func161 rfl Tryz.ntmps161 rfl ?_
  dsimp only [slotsOf]
  refine Zp 2 [0] rfl ?_;refine Zx [_, _] rfl rfl fun b1 => ?_;refine Zv rfl ?_;refine GT_nil ?_;refine Zp 4 [2] rfl ?_;refine Zg rfl fo_207_1 rfl ag_199 rfl ?_;refine Zc rfl rn_111 (fun w hw => C_CheckSamples (h.sh hw)) GR_nil ?_;refine Zv rfl ?_;refine Zz ?_;refine Zq [1, 3] 14 [5] rfl rfl ?_;refine Zv rfl ?_;refine GT_S rfl (V_neq rfl rfl rfl) ?_;refine Zv rfl ?_;refine GT_splitNot (d := 9) rfl (fun h1 => ?_) (fun h1 => ?_)
  · refine Zg rfl fo_207_0 rfl ag_9 rfl ?_;refine Zc rfl rn_170 (fun w hw => C_isName hn) GR_nil ?_;refine GT_S rfl (V_notB rfl rfl) ?_;refine Zv rfl ?_;refine GT_splitNotB (d := 14) rfl (fun h2 => ?_) (fun h2 => ?_)
    · refine Zr 6 rfl ?_;refine GT_nil ?_;refine GE_cond_t rfl ?_;refine Zs [] rfl ?_;refine ZP 1 [] rfl ?_;refine Zv rfl ?_;refine GT_nil ?_;refine Zp 2 [] rfl ?_;refine Zr 2 rfl ?_;refine GT_nil ?_;refine GE_ret Tryz.func161 rfl (fun w hw => ⟨?_, hw.nil⟩)
      refine congrArg I ?_;rw [hq];simp_all
    · refine Zg rfl fo_207_1 rfl ag_199 rfl ?_;refine Zn rfl Tryz.underlying199 ?_;refine GT_S rfl (V_eql rfl rfl rfl) ?_;refine Zr 2 rfl ?_;refine GT_nil ?_;refine GE_cond rfl (fun h1 => ?_) (fun h1 => ?_)
      · refine Zs [] rfl ?_;refine ZP 1 [] rfl ?_;refine Zv rfl ?_;refine GT_nil ?_;refine Zp 2 [] rfl ?_;refine Zr 2 rfl ?_;refine GT_nil ?_;refine GE_ret Tryz.func161 rfl (fun w hw => ⟨?_, hw.nil⟩)
        refine congrArg I ?_;rw [hq];simp_all
      · refine GE_skip ?_;refine Zq [3] 2 [] rfl rfl ?_;refine Zr 2 rfl ?_;refine GT_nil ?_;refine GE_ret Tryz.func161 rfl (fun w hw => ⟨?_, hw.nil⟩)
        refine congrArg I ?_;rw [hq];simp_all
  · refine Zr 2 rfl ?_;refine GT_skip_ld rfl rfl rfl rfl rfl (by decide) rfl rfl rfl GR_nil ?_;refine Zr 8 rfl ?_;refine GT_nil ?_;refine GE_cond_f rfl ?_;refine GE_skip ?_;refine Zq [3] 2 [] rfl rfl ?_;refine Zr 2 rfl ?_;refine GT_nil ?_;refine GE_ret Tryz.func161 rfl (fun w hw => ⟨?_, hw.nil⟩)
    refine congrArg I ?_;rw [hq];simp_all
theorem lErr_six {l : List Tk} {k : Nat} (hk : k < l.length) (h : tErr (l.getD k default) = 6) : lErr l = 6 := by
  unfold lErr
  split
  · rfl
  · rw [if_pos (by rw [List.any_eq_true]; exact ⟨_, getD_mem hk, decide_eq_true h⟩)]
theorem map_take_succ {l : List Tk} {k : Nat} (hk : k < l.length) : (l.take (k + 1)).map Tk.name = (l.take k).map Tk.name ++ [(l.getD k default).name] := by
  rw [List.take_add_one, List.getElem?_eq_getElem hk, List.map_append]; simp [List.getD, hk]
theorem lErr_fin {l : List Tk} {wo : Int} {ks : List KV} (h1 : 1 ≤ l.length ∧ l.length ≤ 16) (h6 : ∀ i, i < l.length → tErr (l.getD i default) ≠ 6)
    (hwo : (wo = 0 ∧ ∀ i, i < l.length → tErr (l.getD i default) = 0) ∨ (wo = 2 ∧ ∃ i, i < l.length ∧ tErr (l.getD i default) ≠ 0)) (hks : ks.map (·.1) = uniq ((l.take l.length).map Tk.name)) :
    lErr l = if wo = 0 then (if (ks.length : Int) < l.length then 12 else 0) else wo := by
  have n6 : ¬ l.any (fun t => decide (tErr t = 6)) = true := by
    rw [List.any_eq_true]; rintro ⟨t, ht, e⟩
    obtain ⟨i, hi, rfl⟩ := List.getElem_of_mem ht
    have := h6 i hi
    simp [List.getD, hi] at this e; exact this e
  have hl := uniq_len (l.map Tk.name)
  rw [List.take_length] at hks
  rw [← hks, List.length_map, List.length_map] at hl
  unfold lErr
  rw [if_neg (by omega), if_neg n6]
  rcases hwo with ⟨rfl, h0⟩ | ⟨rfl, i, hi, h0⟩
  · have n2 : ¬ l.any (fun t => decide (tErr t ≠ 0)) = true := by
      rw [List.any_eq_true]; rintro ⟨t, ht, e⟩
      obtain ⟨i, hi, rfl⟩ := List.getElem_of_mem ht
      have := h0 i hi
      simp [List.getD, hi] at this e; exact e this
    rw [if_neg n2, if_pos rfl]
    by_cases hq : (l.map Tk.name).Nodup
    · rw [if_pos hq, if_neg]; have := hl.2.2 hq; omega
    · rw [if_neg hq, if_pos]
      have : ks.length ≠ l.length := fun e => hq (hl.2.1 e)
      omega
  · rw [if_pos, if_neg (by omega)]
    rw [List.any_eq_true]
    exact ⟨_, getD_mem hi, decide_eq_true h0⟩
set_option maxRecDepth 10000 in
theorem C_CheckTakes {l : List Tk} (h : Tks w A l) : Con0 Tryz.prog 140 [.slice A l.length c] w (I (lErr l)) := by
  refine Ret_of (vs := [_]) hm none' Tryz.func140 rfl Tryz.ntmps140 rfl ?_
  dsimp only [slotsOf]
  refine Zp 1 [] rfl ?_;refine Zv rfl ?_;refine Zz ?_;refine Zp 8 [] rfl ?_;refine Zv rfl ?_;refine Zn rfl Tryz.underlying208 ?_;refine GT_S rfl (V_lss rfl rfl rfl) ?_;refine Zv rfl ?_;refine GT_split (d := 11) rfl (fun h1 => ?_) (fun h1 => ?_)
  · refine Zr 4 rfl ?_;refine GT_nil ?_;refine GE_cond_t rfl ?_;refine Zq [] 1 [] rfl rfl ?_;refine Zv rfl ?_;refine GT_nil ?_;refine GE_ret Tryz.func140 rfl (fun w hw => ⟨?_, hw.nil⟩)
    refine congrArg I ?_;first | (rw [hfin]; simp_all; done) | (rw [lErr, if_pos (by omega)])
  · refine Zv rfl ?_;refine Zn rfl Tryz.underlying208 ?_;refine GT_S rfl (V_gtr rfl rfl rfl) ?_;refine Zv rfl ?_;refine GT_nil ?_;refine GE_cond rfl (fun h2 => ?_) (fun h2 => ?_)
    · refine Zq [] 1 [] rfl rfl ?_;refine Zv rfl ?_;refine GT_nil ?_;refine GE_ret Tryz.func140 rfl (fun w hw => ⟨?_, hw.nil⟩)
      refine congrArg I ?_;rw [lErr, if_pos (by omega)]
    · refine GE_skip ?_;refine Zq [0] 1 [] rfl rfl ?_;refine Zv rfl ?_;refine GT_nil ?_;refine Zp 2 [0] rfl ?_;refine GT_makeMap rfl rfl rfl rfl rfl (fun _ => GR_nil) (fun b16 => ?_);refine Zv rfl ?_;refine Zz ?_;refine Zp 3 [] rfl ?_;refine Zv rfl ?_;refine Zn rfl Tryz.underlying208 ?_;refine Zv rfl ?_;refine GT_nil ?_;refine GE_block ?_;refine GE_to (GE_loop (ι := Nat × Int × List KV) (fun x => l.length - x.1) (fun x => [(0, .slice A l.length c), (3, I x.2.1), (4, .map (some b16)), (17, .slice A l.length c), (18, I l.length), (19, I x.1)]) (fun x => [(b16, mobj x.2.2)]) (fun x => x.1 ≤ l.length ∧ (∀ i, i < x.1 → tErr (l.getD i default) ≠ 6) ∧ ((x.2.1 = 0 ∧ ∀ i, i < x.1 → tErr (l.getD i default) = 0) ∨ (x.2.1 = 2 ∧ ∃ i, i < x.1 ∧ tErr (l.getD i default) ≠ 0)) ∧ x.2.2.map (·.1) = uniq ((l.take x.1).map Tk.name) ∧ ∀ e ∈ x.2.2, 0 ≤ e.2 ∧ e.2 ≤ x.1) ?_ (0, 0, []) ?_) ⟨rfl, rfl, rfl, rfl, rfl, rfl, trivial⟩ (HS.cons rfl HS.nil)
      · rintro ⟨k, wo, ks⟩ ⟨hk, h6, hwo, hks, hkb⟩ ih; dsimp only at hk h6 hwo hks hkb ih ⊢
        refine Zp 1 [] rfl ?_;refine GT_S rfl (V_lss rfl rfl rfl) ?_;refine Zz ?_;refine GE_cond rfl (fun h3 => ?_) (fun h3 => ?_)
        · have hkl : k < l.length := (by omega); have ht := h.2 _ (getD_mem hkl); have hmg := mget_bd hkb (Int.natCast_nonneg k) (k := (l.getD k default).name)
          refine GE_skip ?_;refine GE_seq ?_;refine GE_block ?_;refine Zp 4 [2, 3] rfl ?_;refine GT_S rfl (V_index rfl rfl rfl Tryz.underlying208 sz_207 (k := k) rfl hkl (h.1.isSome hkl)) ?_;refine GT_S rfl (V_loadN (vs := [_, _]) rfl rfl ag_207 sz_207 rfl (h.1.ats noM hkl)) ?_;refine Zb rfl zc_207 fun b6 => ?_;refine ZS [_, _] [_, _] rfl rfl sz_207 rfl rfl rfl ?_;refine Zz ?_;refine Zp 3 [1] rfl ?_;refine ZN [_, _] rfl ag_207 sz_207 rfl rfl ?_;refine Zc rfl rn_161 (fun w hw => C_checkTake (t := l.getD k default) (ht.1.sh hw) ht.2.1) GR_nil ?_;refine Zv rfl ?_;refine GT_nil ?_;refine GE_block ?_;refine Zq [0, 3, 4, 6, 7, 17, 18, 19] 3 [] rfl rfl ?_;refine Zv rfl ?_;refine GT_S rfl (V_eql rfl rfl rfl) ?_;refine Zv rfl ?_;refine GT_nil ?_;refine GE_cond rfl (fun h4 => ?_) (fun h4 => ?_)
          · refine Zq [7] 2 [] rfl rfl ?_;refine Zr 2 rfl ?_;refine GT_nil ?_;refine GE_ret Tryz.func140 rfl (fun w hw => ⟨?_, hw.nil⟩)
            rw [lErr_six hkl h4]; exact congrArg I h4
          · refine Zp 3 [] rfl ?_;refine Zv rfl ?_;refine GT_S rfl (V_neq rfl rfl rfl) ?_;refine Zv rfl ?_;refine GT_nil ?_;refine GE_condNot rfl (fun h5 => ?_) (fun h5 => ?_)
            · refine Zs [0, 4, 6, 7, 17, 18, 19] rfl ?_;refine ZP 2 [] rfl ?_;refine Zr 2 rfl ?_;refine GT_nil ?_;refine GE_inBlock ?_;refine ZP 6 [5] rfl ?_;refine Zv rfl ?_;refine Zg rfl fo_207_0 rfl ag_9 rfl ?_;refine GT_S rfl (V_lookup rfl rfl rfl Tryz.underlying312 Tryz.underlying9 zv_3) ?_;refine Za rfl (by omega) ?_;refine GT_mapUpdate rfl rfl rfl rfl rfl rfl rfl Tryz.underlying312 Tryz.underlying9 GR_nil ?_;refine GT_nil ?_;refine GE_inBlock ?_;refine Zs [0, 3, 4, 17, 18, 19] rfl ?_;refine ZP 2 [1] rfl ?_;refine Za rfl (by omega) ?_;refine Zw rfl ?_;refine GT_nil ?_
              first
                | exact GE_to (ih (k + 1, tErr (l.getD k default), mput ks (l.getD k default).name (mget ks (l.getD k default).name + 1)) ⟨by dsimp only; omega, fun i hi => by rcases Nat.lt_or_ge i k with r | r; exact h6 i r; rw [show i = k by dsimp only at hi; omega]; exact h4, .inr ⟨by have := tErr_cases (l.getD k default); dsimp only; omega, k, by dsimp only; omega, h5⟩, by dsimp only; rw [mput_keys, hks, map_take_succ hkl, uniq_snoc], by dsimp only; exact mput_bd (fun e he => by have := hkb e he; omega) (by omega)⟩ (by dsimp only; omega)) ⟨rfl, rfl, rfl, rfl, rfl, rfl, trivial⟩ (HS.cons rfl HS.nil)
                | exact GE_to (ih (k + 1, wo, mput ks (l.getD k default).name (mget ks (l.getD k default).name + 1)) ⟨by dsimp only; omega, fun i hi => by rcases Nat.lt_or_ge i k with r | r; exact h6 i r; rw [show i = k by dsimp only at hi; omega]; exact h4, by rcases hwo with ⟨e, hz⟩ | ⟨e, i, hi, hn⟩; exact .inl ⟨e, fun i hi => by rcases Nat.lt_or_ge i k with r | r; exact hz i r; rw [show i = k by dsimp only at hi; omega]; exact h5⟩; exact .inr ⟨e, i, by dsimp only; omega, hn⟩, by dsimp only; rw [mput_keys, hks, map_take_succ hkl, uniq_snoc], by dsimp only; exact mput_bd (fun e he => by have := hkb e he; omega) (by omega)⟩ (by dsimp only; omega)) ⟨rfl, rfl, rfl, rfl, rfl, rfl, trivial⟩ (HS.cons rfl HS.nil)
            · refine GE_skip ?_;refine GE_inBlock ?_;refine Zs [0, 3, 4, 6, 17, 18, 19] rfl ?_;refine ZP 6 [5] rfl ?_;refine Zv rfl ?_;refine Zg rfl fo_207_0 rfl ag_9 rfl ?_;refine GT_S rfl (V_lookup rfl rfl rfl Tryz.underlying312 Tryz.underlying9 zv_3) ?_;refine Za rfl (by omega) ?_;refine GT_mapUpdate rfl rfl rfl rfl rfl rfl rfl Tryz.underlying312 Tryz.underlying9 GR_nil ?_;refine GT_nil ?_;refine GE_inBlock ?_;refine Zs [0, 3, 4, 17, 18, 19] rfl ?_;refine ZP 2 [1] rfl ?_;refine Za rfl (by omega) ?_;refine Zw rfl ?_;refine GT_nil ?_
              first
                | exact GE_to (ih (k + 1, tErr (l.getD k default), mput ks (l.getD k default).name (mget ks (l.getD k default).name + 1)) ⟨by dsimp only; omega, fun i hi => by rcases Nat.lt_or_ge i k with r | r; exact h6 i r; rw [show i = k by dsimp only at hi; omega]; exact h4, .inr ⟨by have := tErr_cases (l.getD k default); dsimp only; omega, k, by dsimp only; omega, h5⟩, by dsimp only; rw [mput_keys, hks, map_take_succ hkl, uniq_snoc], by dsimp only; exact mput_bd (fun e he => by have := hkb e he; omega) (by omega)⟩ (by dsimp only; omega)) ⟨rfl, rfl, rfl, rfl, rfl, rfl, trivial⟩ (HS.cons rfl HS.nil)
                | exact GE_to (ih (k + 1, wo, mput ks (l.getD k default).name (mget ks (l.getD k default).name + 1)) ⟨by dsimp only; omega, fun i hi => by rcases Nat.lt_or_ge i k with r | r; exact h6 i r; rw [show i = k by dsimp only at hi; omega]; exact h4, by rcases hwo with ⟨e, hz⟩ | ⟨e, i, hi, hn⟩; exact .inl ⟨e, fun i hi => by rcases Nat.lt_or_ge i k with r | r; exact hz i r; rw [show i = k by dsimp only at hi; omega]; exact h5⟩; exact .inr ⟨e, i, by dsimp only; omega, hn⟩, by dsimp only; rw [mput_keys, hks, map_take_succ hkl, uniq_snoc], by dsimp only; exact mput_bd (fun e he => by have := hkb e he; omega) (by omega)⟩ (by dsimp only; omega)) ⟨rfl, rfl, rfl, rfl, rfl, rfl, trivial⟩ (HS.cons rfl HS.nil)
        · obtain rfl : k = l.length := (by omega); have hfin := lErr_fin (by omega) h6 hwo hks
          refine GE_exit rfl ?_;refine GE_seq ?_;refine Zq [0, 3, 4] 9 [] rfl rfl ?_;refine Zv rfl ?_;refine GT_S rfl (V_eql rfl rfl rfl) ?_;refine Zv rfl ?_;refine GT_split (d := 41) rfl (fun h6 => ?_) (fun h6 => ?_)
          · refine Zv rfl ?_;refine GT_S rfl (V_lenMap rfl rfl Tryz.underlying312) ?_;refine Zv rfl ?_;refine Zn rfl Tryz.underlying208 ?_;refine GT_S rfl (V_lss rfl rfl rfl) ?_;refine Zv rfl ?_;refine GT_nil ?_;refine GE_cond rfl (fun h7 => ?_) (fun h7 => ?_)
            · refine Zs [] rfl ?_;refine ZP 1 [] rfl ?_;refine Zv rfl ?_;refine GT_nil ?_;refine Zp 2 [] rfl ?_;refine Zr 2 rfl ?_;refine GT_nil ?_;refine GE_ret Tryz.func140 rfl (fun w hw => ⟨?_, hw.nil⟩)
              refine congrArg I ?_;first | (rw [hfin]; simp_all; done) | (rw [lErr, if_pos (by omega)])
            · refine GE_skip ?_;refine Zq [3] 2 [] rfl rfl ?_;refine Zr 2 rfl ?_;refine GT_nil ?_;refine GE_ret Tryz.func140 rfl (fun w hw => ⟨?_, hw.nil⟩)
              refine congrArg I ?_;first | (rw [hfin]; simp_all; done) | (rw [lErr, if_pos (by omega)])
          · refine Zr 6 rfl ?_;refine GT_nil ?_;refine GE_cond_f rfl ?_;refine GE_skip ?_;refine Zq [3] 2 [] rfl rfl ?_;refine Zr 2 rfl ?_;refine GT_nil ?_;refine GE_ret Tryz.func140 rfl (fun w hw => ⟨?_, hw.nil⟩)
            refine congrArg I ?_;first | (rw [hfin]; simp_all; done) | (rw [lErr, if_pos (by omega)])
      · exact ⟨Nat.zero_le _, fun i hi => absurd hi (Nat.not_lt_zero _), .inl ⟨rfl, fun i hi => absurd hi (Nat.not_lt_zero _)⟩, rfl, fun e he => by cases he⟩
end
end Go.Proofs.YtncleikbggjmjaaGreatDoor.Take
/- The program's tables, asked once: which structs and arrays are of numbers alone. -/
namespace Go.Proofs.YtncleikbggjmjaaGreatDoor
open Go.Sx Go.Proofs
theorem is_115 : isStruct Tryz.prog 115 2 = true := by kernel_rfl
theorem is_198 : isStruct Tryz.prog 198 2 = true := by kernel_rfl
end Go.Proofs.YtncleikbggjmjaaGreatDoor
/- The pages of a folded sheet, in plain Lean: each side of each cell is one page. -/
namespace Go.Proofs.YtncleikbggjmjaaGreatDoor.Slv
open Go.Sx
structure Leaf where
  row : Int
  col : Int
  back : Bool
  turned : Bool
instance : Inhabited Leaf := ⟨⟨0, 0, false, false⟩⟩
/-! ### numbers -/
/-! ### where cells are -/
def apart (x y : Leaf) : Prop := ¬ (x.row = y.row ∧ x.col = y.col)
/-! ### pages -/
def same (r c : Int) (b : Bool) (x : Leaf) : Bool := decide (x.row = r) && decide (x.col = c) && (x.back == b)
end Go.Proofs.YtncleikbggjmjaaGreatDoor.Slv
/- Formats, tracks, and the bands of one track, walked. -/
namespace Go.Proofs.YtncleikbggjmjaaGreatDoor.Side
open Go.Sx Go.Proofs Go.RowKit
structure Fmt where
  nm : ByteArray
  outer : Int
  inner : Int
  per : Int
  lead : Int
  gap : Int
  tail : Int
  cost : Int
abbrev Fmt.cells (f : Fmt) : List Value := [.string f.nm, I f.outer, I f.inner, I f.per, I f.lead, I f.gap, I f.tail, I f.cost]
abbrev Fmt.val (f : Fmt) : Value := .agg #[.string f.nm, I f.outer, I f.inner, I f.per, I f.lead, I f.gap, I f.tail, I f.cost]
structure Fmt.Ok (f : Fmt) : Prop where
  nm : (1 ≤ f.nm.size ∧ f.nm.size ≤ 20) ∧ ∀ i, i < f.nm.size → 97 ≤ ((byz f.nm).getD i default).toNat ∧ ((byz f.nm).getD i default).toNat ≤ 122
  outer : 1 ≤ f.outer ∧ f.outer ≤ 4194304
  inner : 0 ≤ f.inner ∧ f.inner ≤ f.outer - 1
  per : 1 ≤ f.per ∧ f.per ≤ 65536
  lead : 0 ≤ f.lead ∧ f.lead ≤ 4194304
  gap : 0 ≤ f.gap ∧ f.gap ≤ 4194304
  tail : 0 ≤ f.tail ∧ f.tail ≤ 4194304
  cost : 0 ≤ f.cost ∧ f.cost ≤ 1048576
theorem getD_memT {α : Type} [Inhabited α] {l : List α} {i : Nat} (h : i < l.length) : l.getD i default ∈ l := by simp [List.getD, h]
structure Trk where
  long : Int
  pitch : Int
  least : Int
instance : Inhabited Trk := ⟨⟨0, 0, 0⟩⟩
def eTrk (t : Trk) : List Value := [I t.long, I t.pitch, I t.least]
structure Trk.Ok (t : Trk) : Prop where
  long : 1 ≤ t.long ∧ t.long ≤ 16777216
  pitch : 1 ≤ t.pitch ∧ t.pitch ≤ 4096
  least : 0 ≤ t.least ∧ t.least ≤ 4194304
section
variable {w : World} {A A2 : Option Addr} {c c2 : Nat}
theorem C_outside {n lo hi : Int} (h : lo ≤ n ∧ n ≤ hi) : Con0 Tryz.prog 128 [I n, I lo, I hi] w (.bool false) := by
  refine Ret_of (vs := [_, _, _]) hm none' Tryz.func128 rfl Tryz.ntmps128 rfl ?_
  dsimp only [slotsOf]
  refine Zp 1 [] rfl ?_;refine Zv rfl ?_;refine GT_nil ?_;refine Zp 9 [] rfl ?_;refine Zr 2 rfl ?_;refine GT_S rfl (V_lss rfl rfl rfl) ?_;refine Zv rfl ?_;refine GT_split (d := 10) rfl (fun h1 => ?_) (fun h1 => ?_)
  · refine Zr 5 rfl ?_;refine GT_nil ?_;refine GE_ret Tryz.func128 rfl (fun w hw => ⟨?_, hw.nil⟩)
    refine congrArg Value.bool ?_;simp;omega
  · refine Zr 2 rfl ?_;refine GT_S rfl (V_gtr rfl rfl rfl) ?_;refine Zr 2 rfl ?_;refine GT_nil ?_;refine GE_ret Tryz.func128 rfl (fun w hw => ⟨?_, hw.nil⟩)
    refine congrArg Value.bool ?_;simp;omega
theorem C_isName {s : ByteArray} (h1 : 1 ≤ s.size ∧ s.size ≤ 20) (hb : ∀ i, i < s.size → 97 ≤ ((byz s).getD i default).toNat ∧ ((byz s).getD i default).toNat ≤ 122) : Con0 Tryz.prog 127 [.string s] w (.bool true) := by
  have hl := byz_len s
  refine Ret_of (vs := [_]) hm none' Tryz.func127 rfl Tryz.ntmps127 rfl ?_
  dsimp only [slotsOf]
  refine Zp 1 [] rfl ?_;refine Zv rfl ?_;refine Zz ?_;refine Zp 4 [1] rfl ?_;refine Zv rfl ?_;refine GT_strBytes rfl rfl rfl rfl rfl rfl Tryz.underlying9 Tryz.underlying296 Tryz.underlying5 (fun _ _ _ _ => GR_nil) (fun b6 c6 I6 hI6 => ?_);refine Zn rfl Tryz.underlying296 ?_;refine Zv rfl ?_;refine GT_nil ?_;refine GE_block ?_;refine GE_to (GE_loop (ι := Nat) (fun k => s.size - k) (fun k => [(0, .string s), (6, .slice (some ⟨b6, 0, none⟩) (byz s).length c6), (7, I (byz s).length), (8, I k)]) (fun k => I6) (fun k => k ≤ s.size) ?_ 0 ?_) ⟨rfl, rfl, rfl, rfl, trivial⟩ HS.last
  · intro k hk ih
    refine Zp 1 [] rfl ?_;refine GT_S rfl (V_lss rfl rfl rfl) ?_;refine Zz ?_;refine GE_cond rfl (fun q1 => ?_) (fun q1 => ?_)
    · have hkl : k < s.size := (by omega); have hbk := hb k hkl
      refine GE_skip ?_;refine GE_seq ?_;refine GE_block ?_;refine Zp 3 [] rfl ?_;refine GT_S rfl (V_index rfl rfl rfl Tryz.underlying296 sz_5 (k := k) rfl (by omega) rfl) ?_;refine ZL rfl ag_5 (CellAt.rdH0 (fun w m => RowB.rd hI6 m) (by omega) rfl) ?_;refine Zv rfl ?_;refine GT_nil ?_;refine Zp 14 [] rfl ?_;refine Zv rfl ?_;refine GT_S rfl (V_isF (V_lss rfl rfl rfl) (by omega)) ?_;refine Zr 2 rfl ?_;refine GT_S rfl (V_isF (V_gtr rfl rfl rfl) (by omega)) ?_;refine Zr 9 rfl ?_;refine GT_nil ?_;refine GE_cond_f rfl ?_;refine GE_skip ?_;refine GE_inBlock ?_;refine Zs [0, 6, 7, 8, 15, 16, 19, 20, 21, 22, 23, 24] rfl ?_;refine ZP 2 [1] rfl ?_;refine Za rfl (by omega) ?_;refine Zw rfl ?_;refine GT_nil ?_
      exact GE_to (ih (k + 1) (by omega) (by omega)) ⟨rfl, rfl, rfl, rfl, trivial⟩ HS.last
    · refine GE_exit rfl ?_;refine Zq [0] 8 [] rfl rfl ?_;refine Zv rfl ?_;refine GT_S rfl (V_isT (V_neqStr rfl rfl rfl) (by rintro rfl; exact absurd h1.1 (by decide))) ?_;refine Zr 2 rfl ?_;refine GT_S rfl (V_len_str rfl Tryz.underlying9 rfl) ?_;refine GT_S rfl (V_leq rfl rfl rfl) ?_;refine Zr 2 rfl ?_;refine GT_nil ?_;refine GE_ret Tryz.func127 rfl (fun w hw => ⟨?_, hw.nil⟩)
      refine congrArg Value.bool ?_;simp;omega
  · exact Nat.zero_le _
theorem C_CheckFormat {f : Fmt} (h : f.Ok) : Con0 Tryz.prog 108 [f.val] w (I 0) := by
  obtain ⟨h1, h2, h3, h4, h5, h6, h7, h8⟩ := h
  refine Ret_of (vs := [_]) hm none' Tryz.func108 rfl Tryz.ntmps108 rfl ?_
  dsimp only [slotsOf]
  refine Zp 2 [0] rfl ?_;refine Zx [_, _, _, _, _, _, _, _] rfl rfl fun b1 => ?_;refine Zv rfl ?_;refine GT_nil ?_;refine Zp 28 [2, 7, 15, 20, 25] rfl ?_;refine Zg rfl fo_154_0 rfl ag_9 rfl ?_;refine Zc rfl rn_127 (fun w hw => C_isName h1.1 h1.2) GR_nil ?_;refine GT_S rfl (V_notB rfl rfl) ?_;refine Zv rfl ?_;refine Zg rfl fo_154_1 rfl ag_2 rfl ?_;refine Zc rfl rn_128 (fun w hw => C_outside h2) GR_nil ?_;refine Zr 2 rfl ?_;refine Zg rfl fo_154_2 rfl ag_2 rfl ?_;refine Zg rfl fo_154_1 rfl ag_2 rfl ?_;refine Za rfl (by omega) ?_;refine Zc rfl rn_128 (fun w hw => C_outside h3) GR_nil ?_;refine Zr 2 rfl ?_;refine Zg rfl fo_154_3 rfl ag_2 rfl ?_;refine Zc rfl rn_128 (fun w hw => C_outside h4) GR_nil ?_;refine Zr 2 rfl ?_;refine Zg rfl fo_154_7 rfl ag_2 rfl ?_;refine Zc rfl rn_128 (fun w hw => C_outside h8) GR_nil ?_;refine Zr 2 rfl ?_;refine Zz ?_;refine Zq [1, 3] 8 [] rfl rfl ?_;refine Zg rfl fo_154_4 rfl ag_2 rfl ?_;refine Zg rfl fo_154_5 rfl ag_2 rfl ?_;refine Zg rfl fo_154_6 rfl ag_2 rfl ?_;refine GT_S rfl (V_build (vs := [_, _, _]) rfl rfl zc_158 pl_158 sa_158 rfl) ?_;refine Zv rfl ?_;refine GT_nil ?_;refine GE_block ?_;refine GE_to (GE_loop (ι := Nat) (fun k => 3 - k) (fun k => [(3, .bool false), (39, .agg #[I f.lead, I f.gap, I f.tail]), (40, I k)]) (fun k => []) (fun k => k ≤ 3) ?_ 0 ?_) ⟨rfl, rfl, rfl, trivial⟩ HS.nil
  · intro k hk ih
    refine Zp 1 [] rfl ?_;refine GT_S rfl (V_lss rfl rfl rfl) ?_;refine Zz ?_;refine GE_cond rfl (fun q1 => ?_) (fun q1 => ?_)
    · have hk3 : k < 3 := (by omega)
      refine GE_skip ?_;refine GE_seq ?_;refine GE_block ?_;refine Zp 2 [] rfl ?_;refine GT_S rfl (V_indexAgg rfl rfl rfl Tryz.underlying158 ag_2 sz_2 (kk := k) rfl (by omega) (show _ = some (I ([f.lead, f.gap, f.tail].getD k 0)) by rcases (show k = 0 ∨ k = 1 ∨ k = 2 by omega) with rfl | rfl | rfl <;> rfl)) ?_;refine Zv rfl ?_;refine GT_nil ?_;refine ZP 6 [3, 5] rfl ?_;refine Zr 3 rfl ?_;refine Zc rfl rn_128 (fun w hw => C_outside (n := [f.lead, f.gap, f.tail].getD k 0) (by rcases (show k = 0 ∨ k = 1 ∨ k = 2 by omega) with rfl | rfl | rfl; exact h5; exact h6; exact h7)) GR_nil ?_;refine Zv rfl ?_;refine Zw rfl ?_;refine GT_nil ?_;refine GE_inBlock ?_;refine Zs [3, 39, 40, 45, 46] rfl ?_;refine ZP 2 [1] rfl ?_;refine Za rfl (by omega) ?_;refine Zw rfl ?_;refine GT_nil ?_
      exact GE_to (ih (k + 1) (by omega) (by omega)) ⟨rfl, rfl, rfl, trivial⟩ HS.nil
    · refine GE_exit rfl ?_;refine GE_seq ?_;refine Zp 1 [] rfl ?_;refine Zv rfl ?_;refine GT_nil ?_;refine GE_cond_f rfl ?_;refine GE_skip ?_;refine Zq [] 1 [] rfl rfl ?_;refine Zv rfl ?_;refine GT_nil ?_;refine GE_ret Tryz.func108 rfl (fun w hw => ⟨?_, hw.nil⟩)
      rfl
  · exact Nat.zero_le _
theorem C_CheckTracks {l : List Trk} (h : RdL w 3 eTrk A l) (hl : l.length ≤ 24) (ho : ∀ t ∈ l, t.Ok) : Con0 Tryz.prog 109 [.slice A l.length c] w (I 0) := by
  refine Ret_of (vs := [_]) hm none' Tryz.func109 rfl Tryz.ntmps109 rfl ?_
  dsimp only [slotsOf]
  refine Zp 1 [] rfl ?_;refine Zv rfl ?_;refine Zz ?_;refine Zp 3 [] rfl ?_;refine Zv rfl ?_;refine Zn rfl Tryz.underlying192 ?_;refine GT_S rfl (V_isF (V_gtr rfl rfl rfl) (by omega)) ?_;refine GT_nil ?_;refine GE_cond_f rfl ?_;refine GE_skip ?_;refine GE_seq ?_;refine Zq [0] 3 [] rfl rfl ?_;refine Zv rfl ?_;refine Zn rfl Tryz.underlying192 ?_;refine Zv rfl ?_;refine GT_nil ?_;refine GE_block ?_;refine GE_to (GE_loop (ι := Nat) (fun k => l.length - k) (fun k => [(8, .slice A l.length c), (9, I l.length), (10, I k)]) (fun k => []) (fun k => k ≤ l.length) ?_ 0 ?_) ⟨rfl, rfl, rfl, trivial⟩ HS.nil
  · intro k hk ih
    refine Zp 1 [] rfl ?_;refine GT_S rfl (V_lss rfl rfl rfl) ?_;refine Zz ?_;refine GE_cond rfl (fun q1 => ?_) (fun q1 => ?_)
    · have hkl : k < l.length := (by omega); have hok := ho _ (getD_memT hkl)
      refine GE_skip ?_;refine GE_seq ?_;refine GE_block ?_;refine Zp 4 [2, 3] rfl ?_;refine GT_S rfl (V_index rfl rfl rfl Tryz.underlying192 sz_156 (k := k) rfl hkl (h.isSome hkl)) ?_;refine GT_S rfl (V_loadN (vs := [_, _, _]) rfl rfl ag_156 sz_156 rfl (show CellsAt _ _ _ (eTrk (l.getD k default)) from h.ats noM hkl)) ?_;refine Zb rfl zc_156 fun b4 => ?_;refine ZS [_, _, _] [_, _, _] rfl rfl sz_156 rfl rfl rfl ?_;refine GT_nil ?_;refine Zp 13 [2, 6, 11] rfl ?_;refine Zg rfl fo_156_0 rfl ag_2 rfl ?_;refine Zc rfl rn_128 (fun w hw => C_outside hok.long) GR_nil ?_;refine Zv rfl ?_;refine Zg rfl fo_156_1 rfl ag_2 rfl ?_;refine Zc rfl rn_128 (fun w hw => C_outside hok.pitch) GR_nil ?_;refine Zr 2 rfl ?_;refine Zg rfl fo_156_2 rfl ag_2 rfl ?_;refine Zc rfl rn_128 (fun w hw => C_outside hok.least) GR_nil ?_;refine Zv rfl ?_;refine GT_nil ?_;refine GE_cond_f rfl ?_;refine GE_skip ?_;refine GE_inBlock ?_;refine Zs [8, 9, 10, 18, 19, 20, 23, 24, 25] rfl ?_;refine ZP 2 [1] rfl ?_;refine Za rfl (by omega) ?_;refine Zw rfl ?_;refine GT_nil ?_
      exact GE_to (ih (k + 1) (by omega) (by omega)) ⟨rfl, rfl, rfl, trivial⟩ HS.nil
    · refine GE_exit rfl ?_;refine Zq [] 1 [] rfl rfl ?_;refine Zv rfl ?_;refine GT_nil ?_;refine GE_ret Tryz.func109 rfl (fun w hw => ⟨?_, hw.nil⟩)
      rfl
  · exact Nat.zero_le _
abbrev plC (f : Fmt) (A : Option Addr) (n c : Nat) : List Value := [.string f.nm, I f.outer, I f.inner, I f.per, I f.lead, I f.gap, I f.tail, I f.cost, .slice A n c]
theorem C_open {f : Fmt} {l : List Trk} (hf : f.Ok) (h : RdL w 3 eTrk A l) (hl : l.length ≤ 24) (ho : ∀ t ∈ l, t.Ok) : Con Tryz.prog 87 [f.val, .slice A l.length c] w (fun _ : Nat => True) (fun b => .tuple #[ptr b 0, I 0]) (fun b => [(b, blk (plC f A l.length c) 246)]) := by
  refine Ret_of (vs := [_, _]) hm none' Tryz.func87 rfl Tryz.ntmps87 rfl ?_
  dsimp only [slotsOf]
  refine Zp 3 [0] rfl ?_;refine Zx [_, _, _, _, _, _, _, _] rfl rfl fun b2 => ?_;refine Zr 2 rfl ?_;refine Zz ?_;refine Zp 3 [1] rfl ?_;refine ZN [_, _, _, _, _, _, _, _] rfl ag_154 sz_154 rfl rfl ?_;refine Zc rfl rn_108 (fun w hw => C_CheckFormat hf) GR_nil ?_;refine Zv rfl ?_;refine GT_nil ?_;refine Zq [1, 2, 6] 2 [] rfl rfl ?_;refine Zv rfl ?_;refine GT_S rfl (V_isF (V_neq rfl rfl rfl) (fun q => q rfl)) ?_;refine GT_nil ?_;refine GE_cond_f rfl ?_;refine GE_skip ?_;refine GE_seq ?_;refine Zp 3 [1] rfl ?_;refine Zv rfl ?_;refine Zc rfl rn_109 (fun w hw => C_CheckTracks (h.sh hw) hl ho) GR_nil ?_;refine Zv rfl ?_;refine GT_nil ?_;refine Zq [1, 2, 7] 2 [] rfl rfl ?_;refine Zv rfl ?_;refine GT_S rfl (V_isF (V_neq rfl rfl rfl) (fun q => q rfl)) ?_;refine GT_nil ?_;refine GE_cond_f rfl ?_;refine GE_skip ?_;refine Zp 6 [3] rfl ?_;refine ZN [_, _, _, _, _, _, _, _] rfl ag_154 sz_154 rfl rfl ?_;refine Zv rfl ?_;refine GT_S rfl (V_build (vs := [_, _, _, _, _, _, _, _, _]) rfl rfl zc_246 pl_246 sa_246 rfl) ?_;refine Zx [_, _, _, _, _, _, _, _, _] rfl rfl fun b21 => ?_;refine Zr 2 rfl ?_;refine GT_nil ?_;refine GE_ret Tryz.func87 ⟨_, _, rfl, rfl, rfl⟩ (fun w hw => ?_)
  exact ⟨_, trivial, rfl, hw.hs (C := cx Tryz.prog hm 0 0 _ none' fun _ _ => True) (HS.cons rfl HS.nil)⟩
def wid (f : Fmt) (t : Trk) : Int := t.pitch * ((t.long + f.per - 1) / f.per)
theorem wid_bd {f : Fmt} {t : Trk} (hf : f.Ok) (ht : t.Ok) : (0 ≤ (t.long + f.per - 1) / f.per ∧ (t.long + f.per - 1) / f.per ≤ 16777216) ∧ (t.long + f.per - 1).tdiv f.per = (t.long + f.per - 1) / f.per ∧ 0 ≤ wid f t ∧ wid f t ≤ 68719476736 := by
  have h1 := hf.per
  have h2 := ht.long
  have h3 := ht.pitch
  have h4 : 0 ≤ (t.long + f.per - 1) / f.per := Int.ediv_nonneg (by omega) (by omega)
  have h5 : (t.long + f.per - 1) / f.per ≤ 16777216 := by
    refine Int.le_of_lt_add_one (Int.ediv_lt_of_lt_mul (by omega) ?_)
    have : (16777216 + 1) * 1 ≤ (16777216 + 1) * f.per := Int.mul_le_mul_of_nonneg_left (by omega) (by omega)
    have e : ((16777216 : Int) + 1) * f.per = 16777216 * f.per + f.per := by rw [Int.add_mul, Int.one_mul]
    have : 16777216 * 1 ≤ 16777216 * f.per := Int.mul_le_mul_of_nonneg_left (by omega) (by omega)
    omega
  refine ⟨⟨h4, h5⟩, Int.tdiv_eq_ediv_of_nonneg (by omega), Int.mul_nonneg (by omega) h4, ?_⟩
  have h6 : t.pitch * ((t.long + f.per - 1) / f.per) ≤ 4096 * 16777216 := Int.mul_le_mul h3.2 h5 h4 (by omega)
  unfold wid; omega
theorem C_width {f : Fmt} {t : Trk} {g n : Nat} (hf : f.Ok) (ht : t.Ok) (hb : BlkAt w g (plC f A n c) 246) : Con0 Tryz.prog 88 [ptr g 0, .agg #[I t.long, I t.pitch, I t.least]] w (I (wid f t)) := by
  have h1 := hf.per
  have h2 := ht.long
  obtain ⟨h3, h4, h5⟩ := wid_bd hf ht
  unfold wid at h5
  refine Ret_of (vs := [_, _]) hm none' Tryz.func88 rfl Tryz.ntmps88 rfl ?_
  dsimp only [slotsOf]
  refine Zp 2 [0] rfl ?_;refine Zx [_, _, _] rfl rfl fun b3 => ?_;refine Zv rfl ?_;refine Zz ?_;refine GE_drawn (.st 0 (.st 1 (.st 2 (.st 3 (.st 4 (.st 5 (.st 6 (.st 7 (.st 8 (.st 9 (.st 10 (.st 11 (.st 12 (.st 13 (.st 14 (.st 15 (.st 16 (.st 17 (.st 18 .nil))))))))))))))))))) [] (by decide +kernel) ?_;refine Zg rfl fo_156_1 rfl ag_2 rfl ?_;refine Zg rfl fo_156_0 rfl ag_2 rfl ?_;refine Zr 2 rfl ?_;refine Zf rfl fo_246_0 ?_;refine Zf rfl fo_154_3 ?_;refine ZL rfl ag_2 (CellAt.old (hb.cell rfl) (noM _)) ?_;refine Za rfl (by omega) ?_;refine Za rfl (by omega) ?_;refine Zr 2 rfl ?_;refine Zf rfl fo_246_0 ?_;refine Zf rfl fo_154_3 ?_;refine ZL rfl ag_2 (CellAt.old (hb.cell rfl) (noM _)) ?_;refine GT_S rfl (V_quo rfl rfl rfl (by omega) ((wrap_i64 (by rw [h4]; omega)).trans h4)) ?_;refine GT_S rfl (V_mul rfl rfl rfl ((wrap_i64 (by omega)))) ?_;refine Zv rfl ?_;refine GT_nil ?_;refine GE_ret Tryz.func88 rfl (fun w hw => ⟨?_, hw.nil⟩)
  rfl
end
end Go.Proofs.YtncleikbggjmjaaGreatDoor.Side
/- The bands of one track, walked. -/
namespace Go.Proofs.YtncleikbggjmjaaGreatDoor.Side
open Go.Sx Go.Proofs Go.RowKit
structure Bnd where
  track : Int
  frm : Int
  to : Int
instance : Inhabited Bnd := ⟨⟨0, 0, 0⟩⟩
def eN (x : Int) : List Value := [I x]
theorem eN_len (x : Int) : (eN x).length = 1 := rfl
theorem eN_one : ∀ x, ∀ u ∈ eN x, u.oneCell' = true := by intro x u hu; simp only [eN, List.mem_singleton] at hu; subst hu; rfl
section
variable {w : World} {A A2 : Option Addr} {c c2 : Nat} {f : Fmt} {t : Trk} {g : Nat}
theorem C_Width {f : Fmt} {t : Trk} (hf : f.Ok) (ht : t.Ok) : Con0 Tryz.prog 64 [f.val, .agg #[I t.long, I t.pitch, I t.least]] w (.tuple #[I (wid f t), I 0]) := by
  refine Ret_of (vs := [_, _]) hm none' Tryz.func64 rfl Tryz.ntmps64 rfl ?_
  dsimp only [slotsOf]
  refine Zp 4 [0, 1] rfl ?_;refine Zx [_, _, _, _, _, _, _, _] rfl rfl fun b2 => ?_;refine Zx [_, _, _] rfl rfl fun b3 => ?_;refine Zr 2 rfl ?_;refine GT_nil ?_;refine Zq [2, 3] 9 [2, 3] rfl rfl ?_;refine ZN [_, _, _, _, _, _, _, _] rfl ag_154 sz_154 rfl rfl ?_;refine ZN [_, _, _] rfl ag_156 sz_156 rfl rfl ?_;refine GT_buildSlice (z := [_, _, _]) rfl rfl rfl rfl rfl Tryz.underlying192 zc_156 sz_156 (by decide) rfl rfl (fun _ => GR_nil) (fun b11 => ?_);refine ZC rfl rn_87 (fun w hw => C_open (l := [t]) hf (RdL.own' hw (fun x => rfl)) (show 1 ≤ 24 by decide) (fun x hx => by rw [List.mem_singleton] at hx; subst hx; exact ht)) (fun _ _ => GR_nil) (fun b _ => ?_);refine Zr 5 rfl ?_;refine Zz ?_;refine Zq [3, 6, 7] 2 [] rfl rfl ?_;refine Zv rfl ?_;refine GT_S rfl (V_isF (V_neq rfl rfl rfl) (fun q => q rfl)) ?_;refine GT_nil ?_;refine GE_cond_f rfl ?_;refine GE_skip ?_;refine Zp 5 [2] rfl ?_;refine Zv rfl ?_;refine ZN [_, _, _] rfl ag_156 sz_156 rfl rfl ?_;refine Zc rfl rn_88 (fun w hw => C_width (t := t) hf ht (BlkAt.of hw)) GR_nil ?_;refine Zr 2 rfl ?_;refine GT_nil ?_;refine GE_ret Tryz.func64 ⟨_, _, rfl, rfl, rfl⟩ (fun w hw => ⟨?_, hw.nil⟩)
  rfl
end
end Go.Proofs.YtncleikbggjmjaaGreatDoor.Side
/- One track alone: the usual order, a crowd, walked. -/
namespace Go.Proofs.YtncleikbggjmjaaGreatDoor.Side
open Go.Sx Go.Proofs Go.RowKit
section
variable {w : World} {A A2 : Option Addr} {c c2 : Nat} {f : Fmt} {t : Trk} {g : Nat}
end
end Go.Proofs.YtncleikbggjmjaaGreatDoor.Side
/- One track alone is a crowd if its band is not possible, walked. -/
namespace Go.Proofs.YtncleikbggjmjaaGreatDoor.Side
open Go.Sx Go.Proofs Go.RowKit
section
variable {w : World} {A A2 : Option Addr} {c c2 : Nat} {f : Fmt} {t : Trk} {g : Nat}
end
end Go.Proofs.YtncleikbggjmjaaGreatDoor.Side
/- Curves and signals that are valid, walked. -/
namespace Go.Proofs.YtncleikbggjmjaaGreatDoor.Side
open Go.Sx Go.Proofs Go.RowKit
section
variable {w : World} {A A2 : Option Addr} {c c2 : Nat} {l : List Int} {most : Int} {g : Nat}
theorem C_beyond {n : Int} (h : (0 ≤ most ∧ most ≤ 1000000) ∧ -most ≤ n ∧ n ≤ most) : Con0 Tryz.prog 160 [I n, I most] w (.bool false) := by
  refine Ret_of (vs := [_, _]) hm none' Tryz.func160 rfl Tryz.ntmps160 rfl ?_
  dsimp only [slotsOf]
  refine Zp 1 [] rfl ?_;refine Zv rfl ?_;refine GT_nil ?_;refine Zp 10 [] rfl ?_;refine Zr 2 rfl ?_;refine GT_S rfl (V_neg rfl rfl ((wrap_i64 (by omega)).trans (show _ = -most by omega))) ?_;refine GT_S rfl (V_isF (V_lss rfl rfl rfl) (by omega)) ?_;refine Zr 3 rfl ?_;refine GT_S rfl (V_isF (V_gtr rfl rfl rfl) (by omega)) ?_;refine Zr 2 rfl ?_;refine GT_nil ?_;refine GE_ret Tryz.func160 rfl (fun w hw => ⟨?_, hw.nil⟩)
  rfl
theorem C_anyB1 {n : Int} (h : (0 ≤ most ∧ most ≤ 1000000) ∧ -most ≤ n ∧ n ≤ most) (hb : BlkAt w g [I most] 2) : Con0 Tryz.prog 167 [I n, ptr g 0] w (.bool false) := by
  refine Ret_of (vs := [_, _]) hm none' Tryz.func167 rfl Tryz.ntmps167 rfl ?_
  dsimp only [slotsOf]
  refine Zp 1 [] rfl ?_;refine Zv rfl ?_;refine GT_nil ?_;refine Zp 4 [2] rfl ?_;refine Zv rfl ?_;refine ZL rfl ag_2 (CellAt.old (hb.cell rfl) (noM _)) ?_;refine Zc rfl rn_160 (fun w hw => C_beyond h) GR_nil ?_;refine Zv rfl ?_;refine GT_nil ?_;refine GE_ret Tryz.func167 rfl (fun w hw => ⟨?_, hw.nil⟩)
  rfl
theorem C_IndexFF (h : RdL w 1 eN A l) (hmo : 0 ≤ most ∧ most ≤ 1000000) (hl : l.length ≤ 4096) (ha : ∀ x ∈ l, -most ≤ x ∧ x ≤ most) (hb : BlkAt w g [I most] 2) : Con0 Tryz.prog 173 [.slice A l.length c, .func (.func 167) #[] #[ptr g 0]] w (I (-1)) := by
  refine Ret_of (vs := [_, _]) hm none' Tryz.func173 rfl Tryz.ntmps173 rfl ?_
  dsimp only [slotsOf]
  refine Zp 1 [] rfl ?_;refine Zv rfl ?_;refine Zz ?_;refine Zp 3 [] rfl ?_;refine Zv rfl ?_;refine Zn rfl Tryz.underlying43 ?_;refine Zv rfl ?_;refine GT_nil ?_;refine GE_block ?_;refine GE_to (GE_loop (ι := Nat) (fun k => l.length - k) (fun k => [(0, .slice A l.length c), (1, .func (.func 167) #[] #[ptr g 0]), (7, I l.length), (8, I k)]) (fun k => []) (fun k => k ≤ l.length) ?_ 0 ?_) ⟨rfl, rfl, rfl, rfl, trivial⟩ HS.nil
  · intro k hk ih
    refine Zp 1 [] rfl ?_;refine GT_S rfl (V_lss rfl rfl rfl) ?_;refine Zz ?_;refine GE_cond rfl (fun q1 => ?_) (fun q1 => ?_)
    · have hkl : k < l.length := (by omega); have hak := ha _ (getD_memT hkl)
      refine GE_skip ?_;refine GE_seq ?_;refine GE_block ?_;refine Zp 2 [] rfl ?_;refine Zr 2 rfl ?_;refine GT_nil ?_;refine Zp 6 [5] rfl ?_;refine Zr 3 rfl ?_;refine GT_S rfl (V_index rfl rfl rfl Tryz.underlying43 sz_2 (k := k) rfl hkl (h.isSome hkl)) ?_;refine ZL rfl ag_2 (h.at0 noM hkl rfl) ?_;refine Zc rfl rn_167 (fun w hw => C_anyB1 ⟨hmo, hak⟩ (hb.sh hw)) GR_nil ?_;refine GT_nil ?_;refine GE_cond_f rfl ?_;refine GE_skip ?_;refine GE_inBlock ?_;refine Zs [0, 1, 7, 8] rfl ?_;refine ZP 2 [1] rfl ?_;refine Za rfl (by omega) ?_;refine Zw rfl ?_;refine GT_nil ?_
      exact GE_to (ih (k + 1) (by omega) (by omega)) ⟨rfl, rfl, rfl, rfl, trivial⟩ HS.nil
    · refine GE_exit rfl ?_;refine Zq [] 1 [] rfl rfl ?_;refine Zv rfl ?_;refine GT_nil ?_;refine GE_ret Tryz.func173 rfl (fun w hw => ⟨?_, hw.nil⟩)
      rfl
  · exact Nat.zero_le _
theorem C_ContainsFF (h : RdL w 1 eN A l) (hmo : 0 ≤ most ∧ most ≤ 1000000) (hl : l.length ≤ 4096) (ha : ∀ x ∈ l, -most ≤ x ∧ x ≤ most) (hb : BlkAt w g [I most] 2) : Con0 Tryz.prog 166 [.slice A l.length c, .func (.func 167) #[] #[ptr g 0]] w (.bool false) := by
  refine Ret_of (vs := [_, _]) hm none' Tryz.func166 rfl Tryz.ntmps166 rfl ?_
  dsimp only [slotsOf]
  refine Zp 1 [] rfl ?_;refine Zv rfl ?_;refine GT_nil ?_;refine Zp 5 [2] rfl ?_;refine Zr 2 rfl ?_;refine Zc rfl rn_173 (fun w hw => C_IndexFF (h.sh hw) hmo hl ha (hb.sh hw)) GR_nil ?_;refine GT_S rfl (V_geq rfl rfl rfl) ?_;refine Zv rfl ?_;refine GT_nil ?_;refine GE_ret Tryz.func166 rfl (fun w hw => ⟨?_, hw.nil⟩)
  rfl
theorem C_anyBeyond (h : RdL w 1 eN A l) (hmo : 0 ≤ most ∧ most ≤ 1000000) (hl : l.length ≤ 4096) (ha : ∀ x ∈ l, -most ≤ x ∧ x ≤ most) : Con0 Tryz.prog 155 [.slice A l.length c, I most] w (.bool false) := by
  refine Ret_of (vs := [_, _]) hm none' Tryz.func155 rfl Tryz.ntmps155 rfl ?_
  dsimp only [slotsOf]
  refine Zp 2 [0] rfl ?_;refine Zx [_] rfl rfl fun b3 => ?_;refine Zv rfl ?_;refine GT_nil ?_;refine Zp 4 [2] rfl ?_;refine Zv rfl ?_;refine GT_S rfl (V_makeFunc rfl rfl rfl) ?_;refine Zc rfl rn_166 (fun w hw => C_ContainsFF (h.sh hw) hmo hl ha (BlkAt.of hw)) GR_nil ?_;refine Zv rfl ?_;refine GT_nil ?_;refine GE_ret Tryz.func155 rfl (fun w hw => ⟨?_, hw.nil⟩)
  rfl
theorem C_checkSignal (h : RdL w 1 eN A l) (hl : l.length ≤ 4096) (ha : ∀ x ∈ l, -32767 ≤ x ∧ x ≤ 32767) : Con0 Tryz.prog 135 [.slice A l.length c] w (I 0) := by
  refine Ret_of (vs := [_]) hm none' Tryz.func135 rfl Tryz.ntmps135 rfl ?_
  dsimp only [slotsOf]
  refine Zp 1 [] rfl ?_;refine Zv rfl ?_;refine Zz ?_;refine Zp 3 [] rfl ?_;refine Zv rfl ?_;refine Zn rfl Tryz.underlying43 ?_;refine GT_S rfl (V_isF (V_gtr rfl rfl rfl) (by omega)) ?_;refine GT_nil ?_;refine GE_cond_f rfl ?_;refine GE_skip ?_;refine GE_seq ?_;refine Zq [0] 2 [1] rfl rfl ?_;refine Zv rfl ?_;refine Zc rfl rn_155 (fun w hw => C_anyBeyond (h.sh hw) (by decide) hl ha) GR_nil ?_;refine GT_nil ?_;refine GE_cond_f rfl ?_;refine GE_skip ?_;refine Zp 1 [] rfl ?_;refine Zv rfl ?_;refine GT_nil ?_;refine GE_ret Tryz.func135 rfl (fun w hw => ⟨?_, hw.nil⟩)
  rfl
theorem C_CheckCurve (hF : RdL w 1 eN A [64]) (hB : RdL w 1 eN A2 [128]) : Con0 Tryz.prog 154 [.agg #[.slice A 1 c, .slice A2 1 c2, I 256]] w (I 0) := by
  refine Ret_of (vs := [_]) hm none' Tryz.func154 rfl Tryz.ntmps154 rfl ?_
  dsimp only [slotsOf]
  refine Zp 2 [0] rfl ?_;refine Zx [_, _, _] rfl rfl fun b1 => ?_;refine Zv rfl ?_;refine Zz ?_;refine GE_block ?_;refine Zp 9 [] rfl ?_;refine Zg rfl fo_203_0 rfl ag_43 rfl ?_;refine Zn rfl Tryz.underlying43 ?_;refine Zg rfl fo_203_1 rfl ag_43 rfl ?_;refine Zn rfl Tryz.underlying43 ?_;refine GT_S rfl (V_max rfl rfl rfl) ?_;refine GT_S rfl (V_isF (V_gtr rfl rfl rfl) (by decide)) ?_;refine Zv rfl ?_;refine GT_nil ?_;refine GE_cond_f rfl ?_;refine Zq [1] 19 [2, 6] rfl rfl ?_;refine Zg rfl fo_203_0 rfl ag_43 rfl ?_;refine Zc rfl rn_155 (fun w hw => C_anyBeyond (l := [64]) (hF.sh hw) (by decide) (by decide) (by decide)) GR_nil ?_;refine Zv rfl ?_;refine Zg rfl fo_203_1 rfl ag_43 rfl ?_;refine Zc rfl rn_155 (fun w hw => C_anyBeyond (l := [128]) (hB.sh hw) (by decide) (by decide) (by decide)) GR_nil ?_;refine Zr 2 rfl ?_;refine Zg rfl fo_203_2 rfl ag_2 rfl ?_;refine GT_S rfl (V_isF (V_lss rfl rfl rfl) (by decide)) ?_;refine Zr 2 rfl ?_;refine Zg rfl fo_203_2 rfl ag_2 rfl ?_;refine GT_S rfl (V_isF (V_gtr rfl rfl rfl) (by decide)) ?_;refine Zr 2 rfl ?_;refine GT_nil ?_;refine GE_cond_f rfl ?_;refine GE_skip ?_;refine GE_inBlock ?_;refine Zq [] 1 [] rfl rfl ?_;refine Zv rfl ?_;refine GT_nil ?_;refine GE_ret Tryz.func154 rfl (fun w hw => ⟨?_, hw.nil⟩)
  rfl
theorem C_checkChain {b : Nat} (hF : RdL w 1 eN A [64]) (hB : RdL w 1 eN A2 [128]) (hb : BlkAt w b [.slice A 1 c, .slice A2 1 c2, I 256] 203) : Con0 Tryz.prog 134 [.slice (some ⟨b, 0, none⟩) 1 1] w (I 0) := by
  refine Ret_of (vs := [_]) hm none' Tryz.func134 rfl Tryz.ntmps134 rfl ?_
  dsimp only [slotsOf]
  refine Zp 1 [] rfl ?_;refine Zv rfl ?_;refine Zz ?_;refine Zp 3 [] rfl ?_;refine Zv rfl ?_;refine Zn rfl Tryz.underlying258 ?_;refine GT_S rfl (V_isF (V_gtr rfl rfl rfl) (by decide)) ?_;refine GT_nil ?_;refine GE_cond_f rfl ?_;refine GE_skip ?_;refine GE_seq ?_;refine Zq [0] 3 [] rfl rfl ?_;refine Zv rfl ?_;refine Zn rfl Tryz.underlying258 ?_;refine Zv rfl ?_;refine GT_nil ?_;refine GE_block ?_;refine GE_to (GE_loop (ι := Nat) (fun k => 1 - k) (fun k => [(9, .slice (some ⟨b, 0, none⟩) 1 1), (10, I 1), (11, I k)]) (fun k => []) (fun k => k ≤ 1) ?_ 0 ?_) ⟨rfl, rfl, rfl, trivial⟩ HS.nil
  · intro k hk ih
    refine Zp 1 [] rfl ?_;refine GT_S rfl (V_lss rfl rfl rfl) ?_;refine Zz ?_;refine GE_cond rfl (fun q1 => ?_) (fun q1 => ?_)
    · obtain rfl : k = 0 := (by omega)
      refine GE_skip ?_;refine GE_seq ?_;refine GE_block ?_;refine Zp 4 [2, 3] rfl ?_;refine GT_S rfl (V_index rfl rfl rfl Tryz.underlying258 sz_203 (k := 0) rfl Nat.zero_lt_one rfl) ?_;refine GT_S rfl (V_loadN (vs := [_, _, _]) rfl rfl ag_203 sz_203 rfl (show CellsAt _ _ ⟨b, 0 * 3, none⟩ [.slice A 1 c, .slice A2 1 c2, I 256] from fun j v hj => by rw [add_lit, Nat.zero_mul, Nat.zero_add]; exact CellAt.old (hb.cell hj) (noM _))) ?_;refine Zb rfl zc_203 fun b4 => ?_;refine ZS [_, _, _] [_, _, _] rfl rfl sz_203 rfl rfl rfl ?_;refine GT_nil ?_;refine Zp 3 [1] rfl ?_;refine ZN [_, _, _] rfl ag_203 sz_203 rfl rfl ?_;refine Zc rfl rn_154 (fun w hw => C_CheckCurve (hF.sh hw) (hB.sh hw)) GR_nil ?_;refine Zv rfl ?_;refine GT_nil ?_;refine Zq [5, 9, 10, 11] 2 [] rfl rfl ?_;refine Zv rfl ?_;refine GT_S rfl (V_isF (V_neq rfl rfl rfl) (fun q => q rfl)) ?_;refine GT_nil ?_;refine GE_cond_f rfl ?_;refine GE_skip ?_;refine GE_inBlock ?_;refine ZP 2 [1] rfl ?_;refine Za rfl (by omega) ?_;refine Zw rfl ?_;refine GT_nil ?_
      exact GE_to (ih 1 (Nat.le_refl _) (show 1 - 1 < 1 - 0 by decide)) ⟨rfl, rfl, rfl, trivial⟩ HS.nil
    · obtain rfl : k = 1 := (by omega)
      refine GE_exit rfl ?_;refine Zq [] 1 [] rfl rfl ?_;refine Zv rfl ?_;refine GT_nil ?_;refine GE_ret Tryz.func134 rfl (fun w hw => ⟨?_, hw.nil⟩)
      rfl
  · exact Nat.zero_le _
end
end Go.Proofs.YtncleikbggjmjaaGreatDoor.Side
