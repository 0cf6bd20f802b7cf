/- LatheRefused: whatever blank, points, steps, radii and number come in, the law returns true and leaves what it reads as it was. -/
import Derived.Test.YtacmnmcaeflflaaLaO
import Derived.Test.YtacmnmcaeflflaaLb0
namespace Go.Proofs.Ytacmnmcaeflflaa.refused
open Go.Sx Go.RowKit Go.ChangeShapes Go.WideShapes Go.ChangeAt

set_option maxRecDepth 100000 in
theorem contract (H : Type) (enc : TypeId × Value → H) (W : World) (base : Nat) (args : Array Value) (ds gs : List (DataW H)) (before : List MemPlace)
    (hval : ∀ (j : Nat) t v, Try.f13.params[j]? = some t → args[j]? = some v → Value.okWide Try.prog W .any base t v)
    (hW : DataW.Whole enc Try.prog Try.f13.params.toList Rows.latheRefusedSpec.vars false W args.toList ds gs before) :
    Calls Try.prog 13 args W fun e W' => ∃ v, e = .returned v ∧ Rows.latheRefusedSpec.post enc Try.prog Try.f13 false true false false W args v W' := by
  have hW' := hW
  obtain ⟨p, q, hA0, hV, rfl, hfz, hnd⟩ := hW
  have hA : DataW.TrodAll enc Try.prog W 0 (fun _ => true) true Try.f13.params.toList args.toList ds p := hA0
  rw [Try.params13] at hA hval
  obtain ⟨rfl, rfl⟩ := trodVars_none hV
  obtain ⟨v0, vs0, d0, ds0, p0, q0, hargs, rfl, rfl, h0, r0⟩ := trodAll_cons hA
  obtain ⟨v1, vs1, d1, ds1, p1, q1, rfl, rfl, rfl, h1, r1⟩ := trodAll_cons r0
  obtain ⟨v2, vs2, d2, ds2, p2, q2, rfl, rfl, rfl, h2, r2⟩ := trodAll_cons r1
  obtain ⟨v3, vs3, d3, ds3, p3, q3, rfl, rfl, rfl, h3, r3⟩ := trodAll_cons r2
  obtain ⟨v4, vs4, d4, ds4, p4, q4, rfl, rfl, rfl, h4, r4⟩ := trodAll_cons r3
  obtain ⟨rfl, rfl, rfl⟩ := trodAll_nil r4
  obtain rfl : args = #[v0, v1, v2, v3, v4] := by cases args; simp_all
  obtain ⟨b0, rfl⟩ := open_blank (hval 0 _ v0 rfl rfl) (Dat.of h0)
  obtain ⟨A1', n1', c1', rfl⟩ := okWide_slice Try.underlying24 (hval 1 _ v1 rfl rfl)
  obtain ⟨A1, l1, c1, e1, hr1, hx1⟩ := open_pts (Dat.of h1)
  obtain ⟨rfl, rfl, rfl⟩ : A1' = A1 ∧ n1' = l1.length ∧ c1' = c1 := by simpa [Value.cells] using e1
  obtain ⟨A2', n2', c2', rfl⟩ := okWide_slice Try.underlying56 (hval 2 _ v2 rfl rfl)
  obtain ⟨A2, l2, c2, e2, hr2, hx2⟩ := open_steps (Dat.of h2)
  obtain ⟨rfl, rfl, rfl⟩ : A2' = A2 ∧ n2' = l2.length ∧ c2' = c2 := by simpa [Value.cells] using e2
  obtain ⟨A3', n3', c3', rfl⟩ := okWide_slice Try.underlying25 (hval 3 _ v3 rfl rfl)
  obtain ⟨A3, l3, c3, e3, hr3, hx3⟩ := open_rads (Dat.of h3)
  obtain ⟨rfl, rfl, rfl⟩ : A3' = A3 ∧ n3' = l3.length ∧ c3' = c3 := by simpa [Value.cells] using e3
  obtain ⟨x4, rfl, rfl, rfl, wf4⟩ := open_int Try.underlying5 (hval 4 _ v4 rfl rfl) h4
  refine Calls.mono (L_LatheRefused hr1 hx1 hr2 hx2 hr3 hx3 wf4) fun e W' he => ?_
  cases e with
  | returned v =>
    obtain ⟨rfl, hs⟩ := he
    exact ⟨_, rfl, post_true hW' rfl hs.below laidOut (by kernel_rfl) rfl Try.underlying4 rfl rfl rfl⟩
  | _ => exact he.elim

set_option maxRecDepth 100000 in
theorem lifted (os : Os) (started : os.Started) (H : Type) (enc : TypeId × Value → H) :
    ReturnsInHanded {} Try.checked os 13 .any (Rows.latheRefusedSpec.pre6 enc Try.prog Try.f13 Rows.latheRefusedRow.domain false) (Rows.latheRefusedSpec.post enc Try.prog Try.f13 false true false false) := by
  refine returnsInHanded_of_change (C := Try.checked) own started (by kernel_rfl) Try.func13
    (ChangeSpec.witness6 (enc := enc) (C := Try.checked) false ⟨#[], #[.agg #[.int .i64 0, .int .i64 0, .int .i64 0, .int .i64 0, .int .i64 0, .int .i64 0], .slice none 0 0, .slice none 0 0, .slice none 0 0, .int .u8 0], []⟩ 8 (by kernel_rfl) (by kernel_rfl) (by kernel_rfl) (by kernel_rfl)) ?_
  intro W base args ds gs before hval hW _ _
  exact contract H enc W base args ds gs before hval hW

theorem proved : Rows.LatheRefusedSaid :=
  OpenClaim.holds_of_wide 13 Try.f13 rfl rfl rfl rfl rfl rfl rfl ⟨rfl, rfl, rfl, rfl, rfl⟩ rfl rfl rfl rfl rfl (by kernel_rfl) Try.func13 (by kernel_rfl)
    (of_decide_eq_true (by kernel_rfl)) (by unfold Func.isWrapper; first | (rw [if_pos (by decide +kernel)]; kernel_rfl) | (rw [if_neg (by decide +kernel)]; exact ⟨rfl, rfl⟩))
    (fun os started H enc _ => lifted os started H enc)
end Go.Proofs.Ytacmnmcaeflflaa.refused
