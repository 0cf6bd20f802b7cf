/- Locked grooves and beginnings of grooves, in plain Lean. -/
import Derived.Test.YtacmnmcaeflflaaLaL
import Derived.Test.YtacmnmcaeflflaaLaB
namespace Go.Proofs.Ytacmnmcaeflflaa
open Go.Sx

theorem le_lockTo {b : Blank} {l : List Pt} {r : List Int} {y : Int} : ∀ i, y ≤ lockTo b l r i ↔ y ≤ b.rim ∧ ∀ q, q < i → l.length - b.per.toNat ≤ q → y ≤ r.getD q default + (l.getD q default).inn - b.land
  | 0 => by simp [lockTo]
  | i + 1 => by
    have ih := le_lockTo (b := b) (l := l) (r := r) (y := y) i
    rw [lockTo]
    split
    · rename_i hs
      rw [Int.le_min, ih]
      constructor
      · rintro ⟨⟨h1, h2⟩, h3⟩
        refine ⟨h1, fun q hq hs2 => ?_⟩
        rcases Nat.lt_or_ge q i with h | h
        · exact h2 q h hs2
        · obtain rfl : q = i := by omega
          exact h3
      · rintro ⟨h1, h2⟩
        exact ⟨⟨h1, fun q hq hs2 => h2 q (by omega) hs2⟩, h2 i (by omega) hs⟩
    · rename_i hs
      rw [ih]
      constructor
      · rintro ⟨h1, h2⟩
        exact ⟨h1, fun q hq hs2 => h2 q (by omega) hs2⟩
      · rintro ⟨h1, h2⟩
        exact ⟨h1, fun q hq hs2 => h2 q (by omega) hs2⟩
def rightB (b : Blank) (l : List Pt) (r : List Int) (h x : Int) : Bool := decide (x + h ≤ lockTo b l r l.length) && decide (0 ≤ x - h)
theorem rightB_iff {b : Blank} {l : List Pt} {r : List Int} {h x : Int} : rightB b l r h x = true ↔ x + h ≤ lockTo b l r l.length ∧ 0 ≤ x - h := by simp [rightB]
theorem rightB_false {b : Blank} {l : List Pt} {r : List Int} {h x : Int} : rightB b l r h x = false ↔ ¬ (x + h ≤ lockTo b l r l.length ∧ 0 ≤ x - h) := by rw [← rightB_iff]; simp
theorem cutE_cases {b : Blank} {l : List Pt} {r : List Int} : cutE b l r = 0 ∨ cutE b l r = 2 ∨ cutE b l r = 6 ∨ cutE b l r = 17 := by
  unfold cutE both ptsCheck; (repeat' split) <;> simp
theorem lock_zero {b : Blank} {l : List Pt} {r : List Int} {h : Int} (hne : (lockRes b l r h).2 ≠ 0) : (lockRes b l r h).1 = 0 := by
  unfold lockRes at *; (repeat' split) <;> simp_all
theorem lock_facts {b : Blank} {l : List Pt} {r : List Int} {h : Int} (hz : (lockRes b l r h).2 = 0 ∨ (lockRes b l r h).2 = 15) : cutE b l r = 0 ∧ (1 ≤ h ∧ h ≤ 4096) ∧ l.length ≠ 0 ∧ (((lockRes b l r h) = (lockTo b l r l.length - h, 0) ∧ 2 * h ≤ lockTo b l r l.length) ∨ ((lockRes b l r h) = (0, 15) ∧ lockTo b l r l.length < 2 * h)) := by
  have hc := cutE_cases (b := b) (l := l) (r := r)
  unfold lockRes at *
  split at hz
  · rename_i h0
    split at hz
    · rename_i h1
      split at hz
      · simp at hz
      · rename_i h2
        rw [if_pos h0, if_pos h1, if_neg h2]
        refine ⟨h0, betw_iff.1 h1, h2, ?_⟩
        split
        · rename_i h3; exact .inr ⟨rfl, h3⟩
        · rename_i h3; exact .inl ⟨rfl, by omega⟩
    · simp at hz
  · simp only at hz; omega

/-! beginnings -/
theorem take_getD {α : Type} [Inhabited α] {l : List α} {k i : Nat} (hi : i < k) : (l.take k).getD i default = l.getD i default := by simp [List.getD, List.getElem?_take, hi]
theorem take_both {b : Blank} {l : List Pt} (he : both b l = 0) (k : Nat) : both b (l.take k) = 0 := by
  obtain ⟨hb, hl, hpt⟩ := both_zero.1 he
  refine both_zero.2 ⟨hb, by rw [List.length_take]; omega, ?_⟩
  rw [List.all_eq_true] at hpt ⊢
  exact fun x hx => hpt x (List.mem_of_mem_take hx)
theorem take_edge {b : Blank} {l : List Pt} {k : Nat} {rule i : Int} (hb : b.ok = true) (hr : rule = 3 ∨ rule = 4 ∨ rule = 5) (hi : In (l.take k).length i) : In l.length i ∧ edgeOf b (l.take k) rule i = edgeOf b l rule i := by
  rw [Blank.ok_iff] at hb
  have hi' := hi
  unfold In at hi'
  rw [List.length_take] at hi'
  have hi2 : In l.length i := ⟨by omega, by omega⟩
  refine ⟨hi2, ?_⟩
  rcases hr with rfl | rfl | rfl
  · rw [edgeOf_three hi, edgeOf_three hi2]
  · rw [edgeOf_four hi, edgeOf_four hi2]
  · rw [edgeOf_five hi, edgeOf_five hi2]
    split
    · rfl
    · rw [take_getD (by omega), take_getD (by omega)]
theorem take_keeps {b : Blank} {l : List Pt} {r : Int → Int} (hb : b.ok = true) (h : Keeps b l r) (k : Nat) : Keeps b (l.take k) r := by
  refine ⟨?_, fun i hi => ?_, fun i hi => ?_⟩
  · rintro x ⟨rule, i, hr, hi, hf, rfl⟩
    obtain ⟨h1, h2⟩ := take_edge hb hr hi
    rw [h2] at hf ⊢
    exact h.edges _ ⟨rule, i, hr, h1, hf, rfl⟩
  · unfold In at hi; rw [List.length_take] at hi
    have := h.rim i ⟨by omega, by omega⟩
    unfold r0 at this ⊢
    rw [take_getD (by omega)]; exact this
  · rw [List.length_take] at hi
    rw [take_getD (by omega)]
    exact h.core i (by omega)
theorem take_outer {b : Blank} {l : List Pt} {R : List Int} (he : both b l = 0) (h : outer b l = some R) (k : Nat) : ∃ R', outer b (l.take k) = some R' ∧ R'.length = min k l.length ∧ ∀ i, i < min k l.length → R.getD i default ≤ R'.getD i default := by
  obtain ⟨hb, hl, hpt⟩ := both_zero.1 he
  obtain ⟨_, _, hpt'⟩ := both_zero.1 (take_both he k)
  rcases outer_top hb (ptB_of hpt) with ⟨r1, h1, h2⟩ | ⟨h1, _⟩
  · rw [h1] at h; cases h
    have h3 := take_keeps hb h2.keeps k
    obtain ⟨R', h4, h5⟩ := outer_of_keeps hb (ptB_of hpt') h3
    refine ⟨R', h4, by rw [h5.len, List.length_take], fun i hi => ?_⟩
    have := h5.most _ h3 i (by rw [List.length_take]; exact ⟨by omega, by omega⟩)
    rwa [val_nat, val_nat] at this
  · rw [h1] at h; cases h
/-- no cut of the first m points, none of more -/
theorem take_none {b : Blank} {l : List Pt} {m k : Nat} (he : both b l = 0) (h : outer b (l.take m) = none) (hk : m ≤ k) : outer b (l.take k) = none := by
  cases ho : outer b (l.take k) with
  | none => rfl
  | some R =>
    obtain ⟨R', h1, _⟩ := take_outer (take_both he k) ho m
    rw [List.take_take, Nat.min_eq_left hk, h] at h1
    cases h1
/-- the first k points have a cut, and no more -/
structure IsFit (b : Blank) (l : List Pt) (k : Nat) : Prop where
  le : k ≤ l.length
  all : ∀ i, i < k → outer b (l.take (i + 1)) ≠ none
  no : k < l.length → outer b (l.take (k + 1)) = none
theorem IsFit.unique {b : Blank} {l : List Pt} {k k' : Nat} (h : IsFit b l k) (h' : IsFit b l k') : k = k' := by
  have h1 := h.le
  have h2 := h'.le
  rcases Nat.lt_trichotomy k k' with h3 | h3 | h3
  · exact absurd (h.no (by omega)) (h'.all k h3)
  · exact h3
  · exact absurd (h'.no (by omega)) (h.all k' h3)
theorem outer_nil {b : Blank} : outer b [] = some [] := by
  simp [outer, greatest, grounds, sweepTo, start, coreAll]
theorem IsFit.some {b : Blank} {l : List Pt} {k : Nat} (h : IsFit b l k) : ∃ R, outer b (l.take k) = some R := by
  cases k with
  | zero => exact ⟨[], by rw [List.take_zero]; exact outer_nil⟩
  | succ k =>
    cases ho : outer b (l.take (k + 1)) with
    | none => exact absurd ho (h.all k (by omega))
    | some R => exact ⟨R, rfl⟩
end Go.Proofs.Ytacmnmcaeflflaa
