/- A take is read from its file, and a programme from its text, and nothing else is read from them; a file with one byte changed, or without its last byte, is none. For every list of takes, every programme, all bytes and texts, whichever byte is changed, and however. -/
import Derived.Test.YtdcjgjopmicidaaGreatDoorMt11
import Derived.Test.YtdcjgjopmicidaaGreatDoorMt19
import Derived.Test.YtdcjgjopmicidaaGreatDoorTie
import Derived.Test.YtdcjgjopmicidaaGreatDoorCards
import Derived.Test.YtdcjgjopmicidaaGreatDoorMt20
import Derived.ProofKit
import Derived.OpenShut
import Derived.LaidMore
import Derived.Lay
import Derived.SevenTiedAt
import Derived.Stop.Joined
namespace Go.Proofs.YtdcjgjopmicidaaGreatDoor.kept
open Go.Sx Go.RowKit Go.ChangeShapes Go.WideShapes Go.ChangeAt

set_option maxRecDepth 100000 in
theorem contract (H : Type) (enc : TypeId × Value → H) (W : World) (base : Nat) (args : Array Value) (ds gs : List (DataW H)) (before : List MemPlace)
    (hval : ∀ (j : Nat) t v, Tryz.f4.params[j]? = some t → args[j]? = some v → Value.okWide Tryz.prog W .any base t v)
    (hW : DataW.Whole enc Tryz.prog Tryz.f4.params.toList Rows.takeKeptSpec.vars false W args.toList ds gs before) (hE : Env W) :
    Calls Tryz.prog 4 args W fun e W' => ∃ v, e = .returned v ∧ Rows.takeKeptSpec.post enc Tryz.prog Tryz.f4 false true false false W args v W' := by
  have hW' := hW
  obtain ⟨p, q, hA0, hV, rfl, hfz, hnd⟩ := hW
  have hA : DataW.TrodAll enc Tryz.prog W 0 (fun _ => true) true Tryz.f4.params.toList args.toList ds p := hA0
  rw [Tryz.params4] at hA hval
  obtain ⟨rfl, rfl⟩ := trodVars_none hV
  obtain ⟨v0, vs0, d0, ds0, p0, q0, hargs, rfl, rfl, h0, r0⟩ := trodAll_cons hA
  obtain ⟨v1, vs1, d1, ds1, p1, q1, rfl, rfl, rfl, h1, r1⟩ := trodAll_cons r0
  obtain ⟨v2, vs2, d2, ds2, p2, q2, rfl, rfl, rfl, h2, r2⟩ := trodAll_cons r1
  obtain ⟨v3, vs3, d3, ds3, p3, q3, rfl, rfl, rfl, h3, r3⟩ := trodAll_cons r2
  obtain ⟨v4, vs4, d4, ds4, p4, q4, rfl, rfl, rfl, h4, r4⟩ := trodAll_cons r3
  obtain ⟨v5, vs5, d5, ds5, p5, q5, rfl, rfl, rfl, h5, r5⟩ := trodAll_cons r4
  obtain ⟨rfl, rfl, rfl⟩ := trodAll_nil r5
  obtain rfl : args = #[v0, v1, v2, v3, v4, v5] := by cases args; simp_all
  obtain ⟨A0', n0', c0', rfl⟩ := okWide_slice Tryz.underlying22 (hval 0 _ v0 rfl rfl)
  obtain ⟨A0, l0, c0, e0, hr0, hx0⟩ := open_takes (Dat.of h0)
  obtain ⟨rfl, rfl, rfl⟩ : A0' = A0 ∧ n0' = l0.length ∧ c0' = c0 := by simpa [Value.cells] using e0
  obtain ⟨A1', n1', c1', rfl⟩ := okWide_slice Tryz.underlying23 (hval 1 _ v1 rfl rfl)
  obtain ⟨A1, l1, c1, e1, hr1, hx1⟩ := open_prts (Dat.of h1)
  obtain ⟨rfl, rfl, rfl⟩ : A1' = A1 ∧ n1' = l1.length ∧ c1' = c1 := by simpa [Value.cells] using e1
  obtain ⟨A2', n2', c2', rfl⟩ := okWide_slice Tryz.underlying33 (hval 2 _ v2 rfl rfl)
  obtain ⟨A2, l2, c2, e2, hr2, hx2⟩ := open_bytes (Dat.of h2)
  obtain ⟨rfl, rfl, rfl⟩ : A2' = A2 ∧ n2' = l2.length ∧ c2' = c2 := by simpa [Value.cells] using e2
  obtain ⟨x3, rfl⟩ := open_str (hval 3 _ v3 rfl rfl)
  obtain ⟨x4, rfl, rfl, rfl, wf4⟩ := open_int Tryz.underlying34 (hval 4 _ v4 rfl rfl) h4
  obtain ⟨x5, rfl, rfl, rfl, wf5⟩ := open_int Tryz.underlying5 (hval 5 _ v5 rfl rfl) h5
  refine Calls.mono (L_TakeKept hE hr0 hx0 hr1 hx1 hr2 hx2 (u16_of wf4) (u8_of wf5)) fun e W' he => ?_
  cases e with
  | returned v =>
    obtain ⟨rfl, hs⟩ := he
    exact ⟨_, rfl, post_true hW' rfl hs.below laidOut (by kernel_rfl) rfl Tryz.underlying4 rfl rfl rfl⟩
  | _ => exact he.elim

set_option maxRecDepth 100000 in
theorem lifted (os : Os) (started : os.Started) (H : Type) (enc : TypeId × Value → H) :
    ReturnsInHanded {} Tryz.checked os 4 .any (fun w args => (Rows.takeKeptSpec.pre enc Tryz.prog Tryz.f4 [] false w args ∧ laidMetH Tryz.prog Rows.takeKeptRow.laid w) ∧ sizedMet enc Tryz.prog Tryz.f4 (OpenSpec.ofChange Rows.takeKeptSpec) false w args)
      (Rows.takeKeptSpec.post enc Tryz.prog Tryz.f4 false true false false) := by
  refine returnsInHanded_of_calls own started (by kernel_rfl)
    (ChangeSpec.witness_shaped (enc := enc) (C := Tryz.checked) (os := os) (X := fun w _ => laidMetH Tryz.prog Rows.takeKeptRow.laid w) false (World.laidAll Tryz.prog os Rows.takeKeptRow.laid) #[.slice none 0 0, .slice none 0 0, .slice none 0 0, .string ⟨#[]⟩, .int .u16 0, .int .u8 0] 8 (World.laidAll_os _ _ _)
      (World.shaped_of_ZipB (by kernel_rfl) (by kernel_rfl)) (by kernel_rfl) (by kernel_rfl) (by kernel_rfl)
      (by rw [MakeChecks.laidMetH_plain _ _ _ (by kernel_rfl)]; exact laidMet_laidAll _ (by kernel_rfl) (by kernel_rfl))) ?_
  intro w tape i _ hsh _ hok hpre hholds
  obtain ⟨_, _, _, fn', hfn', _, _, _, _, hval⟩ := hok
  have e : fn' = Tryz.f4 := Option.some.inj (hfn'.symm.trans Tryz.func4)
  subst e
  obtain ⟨⟨⟨ds, gs, before, hw, hc⟩, hx⟩, hz⟩ := hpre
  have hw' := DataW.Whole.of_heap (w' := w.forCall tape i) (by rfl) hw
  refine (contract H enc (w.forCall tape i) w.heap.size i.args ds gs before hval hw' (env_of (hx.of_heap (by rfl)) hsh)).mono fun e W' ⟨v, he, hp⟩ => ?_
  subst he
  exact ChangeSpec.post_blind hp

set_option maxRecDepth 100000 in
theorem said : Rows.TakeKeptSaid :=
  OpenClaim.holds_of_wide 4 Tryz.f4 rfl rfl rfl rfl rfl rfl rfl ⟨rfl, rfl, rfl, rfl, rfl⟩ rfl rfl rfl rfl rfl (by kernel_rfl) Tryz.func4 (by kernel_rfl)
    (of_decide_eq_true (by kernel_rfl)) (by unfold Func.isWrapper; first | (rw [if_pos (by decide +kernel)]; kernel_rfl) | (rw [if_neg (by decide +kernel)]; exact ⟨rfl, rfl⟩))
    (fun os started H enc _ => lifted os started H enc)
theorem proved : Rows.TakeKeptCardSaid :=
  Claim7.holds_tied_plain_at .later [] [.data, .data, .data, .data, .sentinel, .sentinel, .pinned] true (true, "973cc256a72b308e39d01844d1d83363631e87fd6db1dd72d3de81427e25399a") true said (fun _ h => by cases h) (by kernel_rfl) (fun _ h => by cases h) takeKept_row_tie rfl ⟨rfl, rfl⟩ (by kernel_rfl) rfl
    (fun f fn hf hfn => by
      obtain rfl : f = 4 := Option.some.inj ((show Tryz.prog.funcNamed "deadwax/deadwaxlaw01.TakeKept" = some 4 by kernel_rfl).symm.trans hf) |>.symm
      obtain rfl : fn = Tryz.f4 := (Option.some.inj (Tryz.func4.symm.trans hfn)).symm
      exact ⟨by kernel_rfl, fun j t ht => by
        rw [Tryz.params4] at ht
        have hm : t ∈ [22, 23, 33, 9, 34, 5] := by simpa using Array.mem_of_getElem? ht
        have hall : ([22, 23, 33, 9, 34, 5].all fun u => !Tryz.prog.wantsStandIn u) = true := by kernel_rfl
        exact (show Tryz.prog.wantsStandIn t = false by simpa using List.all_eq_true.1 hall t hm)⟩)
    (by kernel_rfl)
end Go.Proofs.YtdcjgjopmicidaaGreatDoor.kept
