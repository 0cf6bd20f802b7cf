/- Which cuts keep the rules, in plain Lean. -/
import Derived.Test.YtacmnmcaeflflaaLaX
namespace Go.Proofs.Ytacmnmcaeflflaa
open Go.Sx

theorem kept_two {b : Blank} {l : List Pt} {r : List Int} {i : Nat} : kept b l r i 2 = decide (b.core ≤ r.getD i default + (l.getD i default).inn) := by simp [kept]
theorem outer_none {b : Blank} {l : List Pt} (h : greatest b l = none) : outer b l = none := by unfold outer; rw [h]; rfl
theorem outer_bad {b : Blank} {l : List Pt} {r : List Int} {i : Nat} (h : greatest b l = some r) (hi : i < l.length) (hk : kept b l r i 2 = false) : outer b l = none := by
  unfold outer; rw [h]
  have : coreAll b l r = false := by
    cases hc : coreAll b l r with
    | false => rfl
    | true => have := coreAll_iff.1 hc i hi; rw [kept_two, decide_eq_false_iff_not] at hk; exact absurd this hk
  simp [this]
theorem outer_good {b : Blank} {l : List Pt} {r : List Int} (h : greatest b l = some r) (hk : ∀ i, i < l.length → kept b l r i 2 = true) : outer b l = some r := by
  unfold outer; rw [h]
  have : coreAll b l r = true := coreAll_iff.2 fun i hi => by have := hk i hi; rw [kept_two] at this; simpa using this
  simp [this]

def rOk (x : Int) : Bool := betw x (-16777216) 16777216
/-- the error of a cut -/
def cutE (b : Blank) (l : List Pt) (r : List Int) : Int := if both b l = 0 then (if r.length = l.length then (if r.all rOk then 0 else 2) else 17) else both b l
theorem cutE_zero {b : Blank} {l : List Pt} {r : List Int} : cutE b l r = 0 ↔ both b l = 0 ∧ r.length = l.length ∧ r.all rOk = true := by
  unfold cutE
  constructor
  · intro h
    split at h
    · split at h
      · split at h
        · exact ⟨by assumption, by assumption, by assumption⟩
        · cases h
      · cases h
    · contradiction
  · rintro ⟨h1, h2, h3⟩; rw [if_pos h1, if_pos h2, if_pos h3]
theorem sm_of {r : List Int} (h : r.all rOk = true) : Sm r := by
  intro q hq
  have := List.all_eq_true.1 h _ (List.getElem_mem hq)
  simp only [rOk, betw_iff] at this
  simp only [List.getD, List.getElem?_eq_getElem hq, Option.getD_some]; omega

/-- all samples and rules, in order -/
def stepTo (k j : Nat) : List Stp := ((List.range k).flatMap fun i : Nat => (List.range 5).map fun q : Nat => (⟨(q : Int) + 1, i⟩ : Stp)) ++ (List.range j).map fun q : Nat => (⟨(q : Int) + 1, k⟩ : Stp)
def stepList (l : List Pt) : List Stp := stepTo l.length 0
theorem stepTo_succ (k j : Nat) : stepTo k j ++ [⟨(j : Int) + 1, k⟩] = stepTo k (j + 1) := by simp [stepTo, List.range_succ]
theorem stepTo_five (k : Nat) : stepTo k 5 = stepTo (k + 1) 0 := by simp [stepTo, List.range_succ]
theorem stepTo_pre {l : List Pt} {k j : Nat} (hk : k < l.length) (hj : j ≤ 5) : stepTo k j <+: stepList l := by
  have h1 : stepTo k j <+: stepTo k 5 := by
    obtain ⟨m, hm⟩ : ∃ m, 5 = j + m := ⟨5 - j, by omega⟩
    unfold stepTo
    rw [List.prefix_append_right_inj, hm, List.range_add, List.map_append]
    exact List.prefix_append _ _
  refine h1.trans ?_
  rw [stepTo_five]
  obtain ⟨m, hm⟩ : ∃ m, l.length = (k + 1) + m := ⟨l.length - (k + 1), by omega⟩
  unfold stepList stepTo
  rw [hm, List.range_add (n := k + 1), List.flatMap_append, List.range_zero, List.map_nil, List.append_nil, List.map_nil, List.append_nil]
  exact List.prefix_append _ _
def bad (b : Blank) (l : List Pt) (r : List Int) (s : Stp) : Bool := !kept b l r s.samp.toNat s.rule
def firstBad (b : Blank) (l : List Pt) (r : List Int) : Option Stp := (stepList l).find? (bad b l r)
def cutRes (b : Blank) (l : List Pt) (r : List Int) : Int × Int × Int := if cutE b l r = 0 then (match firstBad b l r with | some s => (s.samp, s.rule, 20) | none => (0, 0, 0)) else (0, 0, cutE b l r)
theorem cutRes_err {b : Blank} {l : List Pt} {r : List Int} (h : cutE b l r ≠ 0) : cutRes b l r = (0, 0, cutE b l r) := by unfold cutRes; rw [if_neg h]
theorem cutRes_none {b : Blank} {l : List Pt} {r : List Int} (h : cutE b l r = 0) (h2 : firstBad b l r = none) : cutRes b l r = (0, 0, 0) := by unfold cutRes; rw [if_pos h, h2]
theorem cutRes_some {b : Blank} {l : List Pt} {r : List Int} {s : Stp} (h : cutE b l r = 0) (h2 : firstBad b l r = some s) : cutRes b l r = (s.samp, s.rule, 20) := by unfold cutRes; rw [if_pos h, h2]
theorem find_snoc {b : Blank} {l : List Pt} {r : List Int} {pre : List Stp} {s : Stp} (h : pre.find? (bad b l r) = none) : (pre ++ [s]).find? (bad b l r) = if bad b l r s then some s else none := by
  rw [List.find?_append, h]; simp [List.find?]; split <;> simp_all

/-- how the lathe sees a rule -/
def at' (r : List Int) (i : Int) : Int := if i = -1 then 0 else r.getD i.toNat default
def keepsL (r : List Int) (e : Edge × Bool) : Bool := if e.2 then decide (at' r e.1.to ≤ at' r e.1.frm + e.1.wt) else true
theorem keepsL_kept {b : Blank} {l : List Pt} {r : List Int} {i : Nat} {rule : Int} (hb : b.ok = true) (hi : i < l.length) (hr : 1 ≤ rule ∧ rule ≤ 5) : keepsL r (edgeOf b l rule i) = kept b l r i rule := by
  rw [Blank.ok_iff] at hb
  have hIn : In l.length (i : Int) := ⟨by omega, by omega⟩
  have e1 : ((i : Int)).toNat = i := by omega
  have e2 : ((i : Int) - 1).toNat = i - 1 := by omega
  have e3 : ((i : Int) - b.per).toNat = i - b.per.toNat := by omega
  unfold kept keepsL at'
  rcases (show rule = 1 ∨ rule = 2 ∨ rule = 3 ∨ rule = 4 ∨ rule = 5 by omega) with rfl | rfl | rfl | rfl | rfl
  · rw [edgeOf_one hIn]; simp only [e1]
    (repeat' split) <;> first | contradiction | (exfalso; omega) | exact decide_eq_decide.2 (by omega)
  · rw [edgeOf_two hIn]; simp only [e1]
    (repeat' split) <;> first | contradiction | (exfalso; omega) | exact decide_eq_decide.2 (by omega)
  · rw [edgeOf_three hIn]; simp only [e1, e2, decide_eq_true_eq]
    (repeat' split) <;> first | contradiction | (exfalso; omega) | exact decide_eq_decide.2 (by omega) | exact (decide_eq_true (by omega)).symm
  · rw [edgeOf_four hIn]; simp only [e1, e2, decide_eq_true_eq]
    (repeat' split) <;> first | contradiction | (exfalso; omega) | exact decide_eq_decide.2 (by omega) | exact (decide_eq_true (by omega)).symm
  · rw [edgeOf_five hIn]
    by_cases h0 : (i : Int) < b.per
    · rw [if_pos h0]; (repeat' split) <;> first | contradiction | (exfalso; omega) | exact (decide_eq_true (by omega)).symm
    · rw [if_neg h0]; simp only [e1, e3]
      (repeat' split) <;> first | contradiction | (exfalso; omega) | exact decide_eq_decide.2 (by omega)
theorem edgeOf_place {b : Blank} {l : List Pt} {rule i : Int} (hb : b.ok = true) (hp : PtB l) (hi : In l.length i) : ((edgeOf b l rule i).1.frm = -1 ∨ ((edgeOf b l rule i).2 = true → In l.length (edgeOf b l rule i).1.frm)) ∧ ((edgeOf b l rule i).1.to = -1 ∨ ((edgeOf b l rule i).2 = true → In l.length (edgeOf b l rule i).1.to)) ∧ -16777216 ≤ (edgeOf b l rule i).1.wt ∧ (edgeOf b l rule i).1.wt ≤ 16777216 := by
  rw [Blank.ok_iff] at hb
  have hi' := hi
  unfold In at hi' ⊢
  have g2 := hp i.toNat (by omega)
  have g1 := fun h : b.per ≤ i => hp (i - b.per).toNat (by omega)
  unfold edgeOf
  rw [if_neg (by omega)]
  (repeat' split) <;> dsimp only <;> (try simp only [decide_eq_true_eq, Bool.false_eq_true, false_imp_iff, or_true, true_or, eq_self, true_and, forall_const]) <;> first | omega | (have := g1 (by omega); omega) | (refine ⟨.inr fun h => ?_, .inr fun h => ?_, ?_, ?_⟩ <;> first | omega | cases h)
end Go.Proofs.Ytacmnmcaeflflaa
