/- What comes in to the lathe's laws: blanks, points, numbers. -/
import Derived.Test.YtacmnmcaeflflaaSx9
import Derived.Test.YtacmnmcaeflflaaRows
import Derived.Test.YtacmnmcaeflflaaFa
import Derived.Test.YtacmnmcaeflflaaLaT
namespace Go.Proofs.Ytacmnmcaeflflaa
open Go.Sx Go.RowKit Go.ChangeShapes Go.WideShapes

theorem own : ownKnob Try.prog.godebug = none := by kernel_rfl
theorem laidOut : laidOutB Try.prog = true := by kernel_rfl
set_option maxRecDepth 100000 in
theorem open_blank {W : World} {base : Nat} {v : Value} (hv : Value.okWide Try.prog W .any base 23 v) (h : Dat Try.prog W 23 v.cells.toList) : ∃ b : Blank, v = b.val := by
  obtain ⟨cs, rfl, _⟩ := okWide_struct Try.underlying23 hv
  obtain ⟨zs, hl, hcs, _⟩ := Dat.intStruct (k := .i64) Try.underlying23 (by kernel_rfl) (by kernel_rfl) h
  match zs, hl, hcs with
  | [z0, z1, z2, z3, z4, z5], _, hcs =>
    refine ⟨⟨z0, z1, z2, z3, z4, z5⟩, congrArg Value.agg ?_⟩
    obtain ⟨l⟩ := cs
    exact congrArg List.toArray hcs
set_option maxRecDepth 100000 in
theorem open_pts {W : World} {cs : List Value} (h : Dat Try.prog W 24 cs) : ∃ A l c, cs = [.slice A (List.length l) c] ∧ RdL W 2 ePt A l ∧ l.length ≤ c ∧ c ≤ maxLen ∧ ∀ x ∈ l, PtWf x := by
  obtain ⟨A, l, c, h1, h2, hg, h3, h4⟩ := Dat.slice (enc := ePt) (G := PtWf) 2 Try.underlying24 (by kernel_rfl) (fun cs h => by
    obtain ⟨zs, hl, hcs, hw⟩ := Dat.intStruct (k := .i64) Try.underlying39 (by kernel_rfl) (by kernel_rfl) h
    match zs, hl, hcs, hw with
    | [z0, z1], _, hcs, hw => exact ⟨⟨z0, z1⟩, ⟨I64.of (hw z0 (by simp)), I64.of (hw z1 (by simp))⟩, hcs⟩) ePt_len h
  exact ⟨A, l, c, h1, h2, h3, h4, hg⟩
set_option maxRecDepth 100000 in
theorem open_rads {W : World} {cs : List Value} (h : Dat Try.prog W 25 cs) : ∃ A l c, cs = [.slice A (List.length l) c] ∧ RdL W 1 eI A l ∧ l.length ≤ c ∧ c ≤ maxLen ∧ ∀ x ∈ l, I64 x := by
  obtain ⟨A, l, c, h1, h2, hg, h3, h4⟩ := Dat.ints Try.underlying25 Try.underlying2 (by kernel_rfl) h
  exact ⟨A, l, c, h1, h2, h3, h4, fun x hx => I64.of (hg x hx)⟩
set_option maxRecDepth 100000 in
theorem open_narrows {W : World} {cs : List Value} (h : Dat Try.prog W 37 cs) : ∃ A l c, cs = [.slice A (List.length l) c] ∧ RdL W 2 eNar A l ∧ l.length ≤ c ∧ c ≤ maxLen ∧ ∀ x ∈ l, NarWf x := by
  obtain ⟨A, l, c, h1, h2, hg, h3, h4⟩ := Dat.slice (enc := eNar) (G := NarWf) 2 Try.underlying37 (by kernel_rfl) (fun cs h => by
    obtain ⟨zs, hl, hcs, hw⟩ := Dat.intArray (k := .u8) Try.underlying40 Try.underlying5 (by kernel_rfl) (by kernel_rfl) h
    match zs, hl, hcs, hw with
    | [z0, z1], _, hcs, hw => exact ⟨⟨z0, z1⟩, ⟨u8_of (hw z0 (by simp)), u8_of (hw z1 (by simp))⟩, hcs⟩) eNar_len h
  exact ⟨A, l, c, h1, h2, h3, h4, hg⟩
theorem okWide_array {P : Program} {w : World} {r : Reach} {base : Nat} {t e : TypeId} {n : Nat} {v : Value} (ht : P.underlying t = some (.array n e)) (h : Value.okWide P w r base t v) : ∃ cs, v = .agg cs := by
  simp only [Value.okWide, ht] at h
  obtain ⟨cs, h1, _⟩ := h
  exact ⟨cs, h1⟩
set_option maxRecDepth 100000 in
theorem open_five {W : World} {base : Nat} {v : Value} (hv : Value.okWide Try.prog W .any base 43 v) (h : Dat Try.prog W 43 v.cells.toList) : ∃ z0 z1 z2 z3 z4 : Int, v = .agg #[.int .u16 z0, .int .u16 z1, .int .u16 z2, .int .u16 z3, .int .u16 z4] ∧ (0 ≤ z0 ∧ z0 ≤ 65535) ∧ (0 ≤ z1 ∧ z1 ≤ 65535) ∧ (0 ≤ z2 ∧ z2 ≤ 65535) ∧ (0 ≤ z3 ∧ z3 ≤ 65535) ∧ (0 ≤ z4 ∧ z4 ≤ 65535) := by
  obtain ⟨cs, rfl⟩ := okWide_array Try.underlying43 hv
  obtain ⟨zs, hl, hcs, hw⟩ := Dat.intArray (k := .u16) Try.underlying43 Try.underlying42 (by kernel_rfl) (by kernel_rfl) h
  match zs, hl, hcs, hw with
  | [z0, z1, z2, z3, z4], _, hcs, hw =>
    refine ⟨z0, z1, z2, z3, z4, congrArg Value.agg ?_, u16_of (hw z0 (by simp)), u16_of (hw z1 (by simp)), u16_of (hw z2 (by simp)), u16_of (hw z3 (by simp)), u16_of (hw z4 (by simp))⟩
    obtain ⟨l⟩ := cs
    exact congrArg List.toArray hcs
set_option maxRecDepth 100000 in
theorem open_steps {W : World} {cs : List Value} (h : Dat Try.prog W 56 cs) : ∃ A l c, cs = [.slice A (List.length l) c] ∧ RdL W 2 eStp A l ∧ l.length ≤ c ∧ c ≤ maxLen ∧ ∀ x ∈ l, StpWf x := by
  obtain ⟨A, l, c, h1, h2, hg, h3, h4⟩ := Dat.slice (enc := eStp) (G := StpWf) 2 Try.underlying56 (by kernel_rfl) (fun cs h => by
    obtain ⟨zs, hl, hcs, hw⟩ := Dat.intStruct (k := .i64) Try.underlying62 (by kernel_rfl) (by kernel_rfl) h
    match zs, hl, hcs, hw with
    | [z0, z1], _, hcs, hw => exact ⟨⟨z0, z1⟩, ⟨I64.of (hw z0 (by simp)), I64.of (hw z1 (by simp))⟩, hcs⟩) eStp_len h
  exact ⟨A, l, c, h1, h2, h3, h4, hg⟩
end Go.Proofs.Ytacmnmcaeflflaa
