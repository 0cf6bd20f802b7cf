/- What comes in to the lathe's laws: blanks, points, numbers. -/
import Derived.Test.YtacmnmcaeflflaaSx9
import Derived.Test.YtacmnmcaeflflaaRows
import Derived.Test.YtacmnmcaeflflaaFa
import Derived.Test.YtacmnmcaeflflaaLaS
namespace Go.Proofs.Ytacmnmcaeflflaa
open Go.Sx Go.RowKit Go.ChangeShapes Go.WideShapes

theorem own : ownKnob Try.prog.godebug = none := by kernel_rfl
theorem laidOut : laidOutB Try.prog = true := by kernel_rfl
set_option maxRecDepth 100000 in
theorem open_blank {W : World} {base : Nat} {v : Value} (hv : Value.okWide Try.prog W .any base 23 v) (h : Dat Try.prog W 23 v.cells.toList) : ∃ b : Blank, v = b.val := by
  obtain ⟨cs, rfl, _⟩ := okWide_struct Try.underlying23 hv
  obtain ⟨zs, hl, hcs, _⟩ := Dat.intStruct (k := .i64) Try.underlying23 (by kernel_rfl) (by kernel_rfl) h
  match zs, hl, hcs with
  | [z0, z1, z2, z3, z4, z5], _, hcs =>
    refine ⟨⟨z0, z1, z2, z3, z4, z5⟩, congrArg Value.agg ?_⟩
    obtain ⟨l⟩ := cs
    exact congrArg List.toArray hcs
set_option maxRecDepth 100000 in
theorem open_pts {W : World} {cs : List Value} (h : Dat Try.prog W 24 cs) : ∃ A l c, cs = [.slice A (List.length l) c] ∧ RdL W 2 ePt A l ∧ l.length ≤ c ∧ c ≤ maxLen := by
  obtain ⟨A, l, c, h1, h2, _, h3, h4⟩ := Dat.slice (enc := ePt) (G := fun _ => True) 2 Try.underlying24 (by kernel_rfl) (fun cs h => by
    obtain ⟨zs, hl, hcs, _⟩ := Dat.intStruct (k := .i64) Try.underlying39 (by kernel_rfl) (by kernel_rfl) h
    match zs, hl, hcs with
    | [z0, z1], _, hcs => exact ⟨⟨z0, z1⟩, trivial, hcs⟩) ePt_len h
  exact ⟨A, l, c, h1, h2, h3, h4⟩
set_option maxRecDepth 100000 in
theorem open_rads {W : World} {cs : List Value} (h : Dat Try.prog W 25 cs) : ∃ A l c, cs = [.slice A (List.length l) c] ∧ RdL W 1 eI A l ∧ (∀ x ∈ l, (Lit.int .i64 x).wf = true) ∧ l.length ≤ c ∧ c ≤ maxLen :=
  Dat.ints Try.underlying25 Try.underlying2 (by kernel_rfl) h
end Go.Proofs.Ytacmnmcaeflflaa
