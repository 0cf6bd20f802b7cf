/- What comes in to the listening laws: plates, discs, hearings, numbers. -/
import Derived.Test.YtfaggcmcfhljpaaSx9
import Derived.Test.YtfaggcmcfhljpaaRows
import Derived.Test.YtfaggcmcfhljpaaFa
import Derived.Test.YtfaggcmcfhljpaaLiS
namespace Go.Proofs.Ytfaggcmcfhljpaa
open Go.Sx Go.RowKit Go.ChangeShapes Go.WideShapes

theorem own : ownKnob Try.prog.godebug = none := by kernel_rfl
theorem laidOut : laidOutB Try.prog = true := by kernel_rfl
theorem ce_int : Try.prog.cellsOf 3 = 1 := by kernel_rfl
theorem ce_int64 : Try.prog.cellsOf 2 = 1 := by kernel_rfl
theorem ce_bool : Try.prog.cellsOf 4 = 1 := by kernel_rfl
theorem ce_plate : Try.prog.cellsOf 53 = 7 := by kernel_rfl
theorem ce_disc : Try.prog.cellsOf 50 = 7 := by kernel_rfl
theorem ce_hear : Try.prog.cellsOf 61 = 2 := by kernel_rfl
section
variable {W : World}
theorem one_int {a : Value} {l : List Value} {q : Nat} (h : Dat Try.prog W 3 ((l.drop q).take (Try.prog.cellsOf 3))) (ha : (l.drop q).take 1 = [a]) : ∃ z, a = I z ∧ (Lit.int .i64 z).wf = true := by
  rw [ce_int, ha] at h
  obtain ⟨z, e, w⟩ := Dat.int (k := .i64) Try.underlying3 h
  exact ⟨z, (List.cons.inj e).1, w⟩
theorem one_int64 {a : Value} {l : List Value} {q : Nat} (h : Dat Try.prog W 2 ((l.drop q).take (Try.prog.cellsOf 2))) (ha : (l.drop q).take 1 = [a]) : ∃ z, a = I z ∧ (Lit.int .i64 z).wf = true := by
  rw [ce_int64, ha] at h
  obtain ⟨z, e, w⟩ := Dat.int (k := .i64) Try.underlying2 h
  exact ⟨z, (List.cons.inj e).1, w⟩
theorem one_bool {a : Value} {l : List Value} {q : Nat} (h : Dat Try.prog W 4 ((l.drop q).take (Try.prog.cellsOf 4))) (ha : (l.drop q).take 1 = [a]) : ∃ z, a = .bool z := by
  rw [ce_bool, ha] at h
  obtain ⟨z, e⟩ := Dat.bool Try.underlying4 h
  exact ⟨z, (List.cons.inj e).1⟩
set_option maxRecDepth 100000 in
theorem open_plt {cs : List Value} (h : Dat Try.prog W 53 cs) : ∃ x : Plt, Plt.wf x ∧ cs = ePlt x := by
  obtain ⟨hl, hf⟩ := Dat.struct Try.underlying53 h
  rw [ce_plate] at hl
  match cs, hl with
  | [a0, a1, a2, a3, a4, a5, a6], _ =>
    obtain ⟨z0, rfl, w0⟩ := one_int (q := 0) (hf 0 _ rfl) rfl
    obtain ⟨z1, rfl, w1⟩ := one_int (q := 1) (hf 1 _ rfl) rfl
    obtain ⟨z2, rfl, w2⟩ := one_int64 (q := 2) (hf 2 _ rfl) rfl
    obtain ⟨z3, rfl, w3⟩ := one_int64 (q := 3) (hf 3 _ rfl) rfl
    obtain ⟨z4, rfl, w4⟩ := one_int64 (q := 4) (hf 4 _ rfl) rfl
    obtain ⟨z5, rfl, w5⟩ := one_int (q := 5) (hf 5 _ rfl) rfl
    obtain ⟨z6, rfl⟩ := one_bool (q := 6) (hf 6 _ rfl) rfl
    exact ⟨⟨z0, z1, z2, z3, z4, z5, z6⟩, ⟨I64.of w0, I64.of w1⟩, rfl⟩
set_option maxRecDepth 100000 in
theorem open_dsc {cs : List Value} (h : Dat Try.prog W 50 cs) : ∃ x : Dsc, Dsc.wf x ∧ cs = eDsc x := by
  obtain ⟨hl, hf⟩ := Dat.struct Try.underlying50 h
  rw [ce_disc] at hl
  match cs, hl with
  | [a0, a1, a2, a3, a4, a5, a6], _ =>
    obtain ⟨z0, rfl, w0⟩ := one_int64 (q := 0) (hf 0 _ rfl) rfl
    obtain ⟨z1, rfl, w1⟩ := one_int64 (q := 1) (hf 1 _ rfl) rfl
    obtain ⟨z2, rfl, w2⟩ := one_int64 (q := 2) (hf 2 _ rfl) rfl
    obtain ⟨z3, rfl, w3⟩ := one_int64 (q := 3) (hf 3 _ rfl) rfl
    obtain ⟨z4, rfl, w4⟩ := one_int64 (q := 4) (hf 4 _ rfl) rfl
    obtain ⟨z5, rfl, w5⟩ := one_int64 (q := 5) (hf 5 _ rfl) rfl
    obtain ⟨z6, rfl⟩ := one_bool (q := 6) (hf 6 _ rfl) rfl
    exact ⟨⟨z0, z1, z2, z3, z4, z5, z6⟩, ⟨I64.of w0, I64.of w1, I64.of w2⟩, rfl⟩
set_option maxRecDepth 100000 in
theorem open_hrg {cs : List Value} (h : Dat Try.prog W 61 cs) : ∃ x : Hrg, Hrg.wf x ∧ cs = eHrg x := by
  obtain ⟨hl, hf⟩ := Dat.struct Try.underlying61 h
  rw [ce_hear] at hl
  match cs, hl with
  | [a0, a1], _ =>
    obtain ⟨z0, rfl, w0⟩ := one_int64 (q := 0) (hf 0 _ rfl) rfl
    obtain ⟨z1, rfl⟩ := one_bool (q := 1) (hf 1 _ rfl) rfl
    exact ⟨⟨z0, z1⟩, I64.of w0, rfl⟩
set_option maxRecDepth 100000 in
theorem open_plates {cs : List Value} (h : Dat Try.prog W 36 cs) : ∃ A l c, cs = [.slice A (List.length l) c] ∧ RdL W 7 ePlt A l ∧ l.length ≤ c ∧ c ≤ maxLen ∧ ∀ x ∈ l, Plt.wf x := by
  obtain ⟨A, l, c, h1, h2, hg, h3, h4⟩ := Dat.slice (enc := ePlt) (G := Plt.wf) 7 Try.underlying36 (by kernel_rfl) (fun cs h => open_plt h) ePlt_len h
  exact ⟨A, l, c, h1, h2, h3, h4, hg⟩
set_option maxRecDepth 100000 in
theorem open_discs {cs : List Value} (h : Dat Try.prog W 37 cs) : ∃ A l c, cs = [.slice A (List.length l) c] ∧ RdL W 7 eDsc A l ∧ l.length ≤ c ∧ c ≤ maxLen ∧ ∀ x ∈ l, Dsc.wf x := by
  obtain ⟨A, l, c, h1, h2, hg, h3, h4⟩ := Dat.slice (enc := eDsc) (G := Dsc.wf) 7 Try.underlying37 (by kernel_rfl) (fun cs h => open_dsc h) eDsc_len h
  exact ⟨A, l, c, h1, h2, h3, h4, hg⟩
set_option maxRecDepth 100000 in
theorem open_hears {cs : List Value} (h : Dat Try.prog W 54 cs) : ∃ A l c, cs = [.slice A (List.length l) c] ∧ RdL W 2 eHrg A l ∧ l.length ≤ c ∧ c ≤ maxLen ∧ ∀ x ∈ l, Hrg.wf x := by
  obtain ⟨A, l, c, h1, h2, hg, h3, h4⟩ := Dat.slice (enc := eHrg) (G := Hrg.wf) 2 Try.underlying54 (by kernel_rfl) (fun cs h => open_hrg h) eHrg_len h
  exact ⟨A, l, c, h1, h2, h3, h4, hg⟩
set_option maxRecDepth 100000 in
theorem open_bytes {cs : List Value} (h : Dat Try.prog W 64 cs) : ∃ A l c, cs = [.slice A (List.length l) c] ∧ RdL W 1 eU8 A l ∧ l.length ≤ c ∧ c ≤ maxLen ∧ ∀ x ∈ l, 0 ≤ x ∧ x ≤ 255 := by
  obtain ⟨A, l, c, h1, h2, hg, h3, h4⟩ := Dat.ints Try.underlying64 Try.underlying5 (by kernel_rfl) h
  exact ⟨A, l, c, h1, h2, h3, h4, fun x hx => u8_of (hg x hx)⟩
theorem okWide_array {P : Program} {w : World} {r : Reach} {base : Nat} {t e : TypeId} {n : Nat} {v : Value} (ht : P.underlying t = some (.array n e)) (h : Value.okWide P w r base t v) : ∃ cs, v = .agg cs := by
  simp only [Value.okWide, ht] at h
  obtain ⟨cs, h1, _⟩ := h
  exact ⟨cs, h1⟩
set_option maxRecDepth 100000 in
theorem open_pair {base : Nat} {v : Value} (hv : Value.okWide Try.prog W .any base 23 v) (h : Dat Try.prog W 23 v.cells.toList) : ∃ z0 z1 : Int, v = .agg #[.int .u16 z0, .int .u16 z1] ∧ (0 ≤ z0 ∧ z0 ≤ 65535) ∧ (0 ≤ z1 ∧ z1 ≤ 65535) := by
  obtain ⟨cs, rfl⟩ := okWide_array Try.underlying23 hv
  obtain ⟨zs, hl, hcs, hw⟩ := Dat.intArray (k := .u16) Try.underlying23 Try.underlying22 (by kernel_rfl) (by kernel_rfl) h
  match zs, hl, hcs, hw with
  | [z0, z1], _, hcs, hw =>
    refine ⟨z0, z1, congrArg Value.agg ?_, u16_of (hw z0 (by simp)), u16_of (hw z1 (by simp))⟩
    obtain ⟨l⟩ := cs
    exact congrArg List.toArray hcs
end
end Go.Proofs.Ytfaggcmcfhljpaa
