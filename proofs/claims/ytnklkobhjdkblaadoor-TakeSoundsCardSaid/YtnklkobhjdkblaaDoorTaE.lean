/- Where a programme is split, in plain Lean. -/
import Derived.Test.YtnklkobhjdkblaaDoorTaS
namespace Go.Proofs.YtnklkobhjdkblaaDoor
open Go.Sx

/-- how many of the first parts have ended -/
def cnt (p : List Prt) (t : Int) : Nat → Nat
  | 0 => 0
  | n + 1 => if en p n ≤ t then cnt p t n + 1 else cnt p t n
theorem cnt_le (p : List Prt) (t : Int) : ∀ n, cnt p t n ≤ n := by
  intro n
  induction n with
  | zero => exact Nat.le_refl _
  | succ n ih => unfold cnt; split <;> omega
theorem cnt_iff {l : List Tk} {p : List Prt} (h : ProgOk l p) (t : Int) : ∀ m, m ≤ p.length → ∀ i, i < m → (i < cnt p t m ↔ en p i ≤ t) := by
  intro m
  induction m with
  | zero => intro _ i hi; exact absurd hi (Nat.not_lt_zero _)
  | succ m ih =>
    intro hm i hi
    have hle := cnt_le p t m
    by_cases he : en p m ≤ t
    · have full : cnt p t m = m := by
        rcases Nat.eq_zero_or_pos m with h0 | h0
        · rw [h0]; rfl
        · have := (ih (by omega) (m - 1) (by omega)).2 (by have := en_mono h (m - 1) m (by omega) (by omega); omega)
          omega
      rw [cnt, if_pos he, full]
      constructor
      · intro _; have := en_mono h i m (by omega) (by omega); omega
      · intro _; omega
    · rw [cnt, if_neg he]
      by_cases him : i = m
      · subst him; constructor
        · intro h; omega
        · intro h; omega
      · exact ih (by omega) i (by omega)
def midB (p : List Prt) (t : Int) : Bool := (List.range p.length).any fun i => decide (bgn p i < t ∧ t < en p i)
theorem midB_yes {p : List Prt} {t : Int} {i : Nat} (hi : i < p.length) (h : bgn p i < t ∧ t < en p i) : midB p t = true := by
  unfold midB; rw [List.any_eq_true]; exact ⟨i, by simpa using hi, decide_eq_true h⟩
theorem midB_no {p : List Prt} {t : Int} (h : ∀ i, i < p.length → ¬ (bgn p i < t ∧ t < en p i)) : midB p t = false := by
  unfold midB; rw [List.any_eq_false]; intro i hi; simpa using h i (by simpa using hi)
theorem midB_not {p : List Prt} {t : Int} (h : midB p t = false) {i : Nat} (hi : i < p.length) : ¬ (bgn p i < t ∧ t < en p i) := by
  unfold midB at h; rw [List.any_eq_false] at h
  simpa using h i (by simpa using hi)
def spE (l : List Tk) (p : List Prt) (t : Int) : Int := if gErr l p = 0 then (if t < 0 ∨ fin p < t then 3 else if midB p t = true then 10 else 0) else gErr l p
def spN (p : List Prt) (t : Int) : Nat := cnt p t p.length
def gapd (x : Prt) (g : Int) : Prt := { x with gap := g }
def spB (p : List Prt) (t : Int) : List Prt := (p.drop (spN p t)).set 0 (gapd (pt p (spN p t)) (bgn p (spN p t) - t))
def spF (l : List Tk) (p : List Prt) (t : Int) : List Prt := if spE l p t = 0 then p.take (spN p t) else []
def spS (l : List Tk) (p : List Prt) (t : Int) : List Prt := if spE l p t = 0 then spB p t else []
theorem spN_le (p : List Prt) (t : Int) : spN p t ≤ p.length := cnt_le p t _
theorem spB_len (p : List Prt) (t : Int) : (spB p t).length = p.length - spN p t := by simp [spB]
theorem spB_get {p : List Prt} {t : Int} {k : Nat} (hk : spN p t + k < p.length) : (spB p t).getD k default = if k = 0 then gapd (pt p (spN p t)) (bgn p (spN p t) - t) else pt p (spN p t + k) := by
  unfold spB
  rw [List.getD, List.getElem?_set]
  by_cases h : k = 0
  · subst h; rw [if_pos rfl, if_pos rfl, if_pos (by simp; omega)]; rfl
  · rw [if_neg (fun e => h e.symm), if_neg h, List.getElem?_drop]; simp [pt, List.getD]
theorem spE_zero {l : List Tk} {p : List Prt} {t : Int} (h : spE l p t = 0) : gErr l p = 0 ∧ (0 ≤ t ∧ t ≤ fin p) ∧ midB p t = false := by
  unfold spE at h
  split at h
  · rename_i hg
    split at h
    · cases h
    · split at h
      · cases h
      · rename_i h1 h2
        exact ⟨hg, by omega, by simpa using h2⟩
  · contradiction
theorem take_snoc {α : Type} [Inhabited α] {l : List α} {i : Nat} (hi : i < l.length) : l.take (i + 1) = l.take i ++ [l.getD i default] := by
  rw [List.take_add_one, List.getElem?_eq_getElem hi]; simp [List.getD, hi]
end Go.Proofs.YtnklkobhjdkblaaDoor
