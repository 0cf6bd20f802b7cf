/- Parts that cross, in plain Lean. -/
import Derived.Test.YtnklkobhjdkblaaDoorTaS
namespace Go.Proofs.YtnklkobhjdkblaaDoor
open Go.Sx

theorem tdiv_sum {s x y D : Int} (hD : 0 < D) (hx : 0 ≤ x) (hy : 0 ≤ y) (h : x + y = D) : amt ((s * x).tdiv D + (s * y).tdiv D) ≤ amt s ∧ amt ((s * x).tdiv D + (s * y).tdiv D - s) ≤ 1 := by
  have pos : ∀ s : Int, 0 ≤ s → 0 ≤ (s * x).tdiv D + (s * y).tdiv D ∧ (s * x).tdiv D + (s * y).tdiv D ≤ s ∧ s ≤ (s * x).tdiv D + (s * y).tdiv D + 1 := by
    intro s hs
    have a1 := Int.mul_nonneg hs hx
    have a2 := Int.mul_nonneg hs hy
    rw [Int.tdiv_eq_ediv_of_nonneg a1, Int.tdiv_eq_ediv_of_nonneg a2]
    have e1 := Int.mul_ediv_add_emod (s * x) D
    have e2 := Int.mul_ediv_add_emod (s * y) D
    have r1 := Int.emod_nonneg (s * x) (show D ≠ 0 by omega)
    have r2 := Int.emod_nonneg (s * y) (show D ≠ 0 by omega)
    have l1 := Int.emod_lt_of_pos (s * x) hD
    have l2 := Int.emod_lt_of_pos (s * y) hD
    have n1 := Int.ediv_nonneg a1 (show 0 ≤ D by omega)
    have n2 := Int.ediv_nonneg a2 (show 0 ≤ D by omega)
    have es : s * x + s * y = D * s := by rw [← Int.mul_add, h, Int.mul_comm]
    generalize s * x / D = q1 at *
    generalize s * y / D = q2 at *
    have ed : D * (s - (q1 + q2)) = s * x % D + s * y % D := by rw [Int.mul_sub, Int.mul_add]; omega
    refine ⟨by omega, ?_, ?_⟩
    · rcases Int.lt_or_le s (q1 + q2) with hc | hc
      · have := Int.mul_le_mul_of_nonneg_left (show s - (q1 + q2) ≤ -1 by omega) (show 0 ≤ D by omega)
        rw [Int.mul_neg, Int.mul_one] at this; omega
      · exact hc
    · rcases Int.lt_or_le (q1 + q2 + 1) s with hc | hc
      · have := Int.mul_le_mul_of_nonneg_left (show 2 ≤ s - (q1 + q2) by omega) (show 0 ≤ D by omega)
        omega
      · exact hc
  rcases Int.le_total 0 s with hs | hs
  · have := pos s hs
    unfold amt; omega
  · have := pos (-s) (by omega)
    rw [Int.neg_mul, Int.neg_mul, Int.neg_tdiv, Int.neg_tdiv] at this
    unfold amt; omega
theorem tdiv_self_mul {s D : Int} (hD : 0 < D) : (s * D).tdiv D = s := Int.mul_tdiv_cancel s (by omega)

def crossL (A : Option Addr) (c : Nat) (s : List Sam) : List Tk := [⟨⟨#[120]⟩, A, c, s⟩]
def crossP (b m n : Int) : List Prt := [⟨0, 0, b + m, 0, 0, m, 1000⟩, ⟨0, b, n, -m, m, 0, 1000⟩]
structure CrossH (s : List Sam) (b m a : Int) : Prop where
  b0 : 0 ≤ b
  m0 : 0 ≤ m
  a0 : 0 ≤ a
  m1 : m ≤ 60
  bm : 1 ≤ b + m
  ma : 1 ≤ m + a
  n : b + m + a ≤ s.length
  l : s.length ≤ 300
  ok : s.all Sam.ok = true
section
variable {A : Option Addr} {c : Nat} {s : List Sam} {b m a : Int}
theorem cross_bgn (h : CrossH s b m a) : bgn (crossP b m (b + m + a)) 0 = 0 ∧ bgn (crossP b m (b + m + a)) 1 = b ∧ en (crossP b m (b + m + a)) 0 = b + m ∧ en (crossP b m (b + m + a)) 1 = b + m + a ∧ fin (crossP b m (b + m + a)) = b + m + a := by
  simp [bgn, en, lng, fin, pt, crossP]; omega
theorem cross_tks (h : CrossH s b m a) : TksOk (crossL A c s) := by
  refine ⟨Nat.le_refl _, show 1 ≤ 16 by decide, fun t ht => ?_, by simp [crossL]⟩
  simp only [crossL, List.mem_singleton] at ht
  subst ht
  have h1 := h.l; have h2 := h.n; have h3 := h.bm; have h4 := h.a0
  exact tErr_zero.2 ⟨by dsimp only; omega, show isNm ⟨#[120]⟩ = true by decide, by dsimp only; omega, h.ok⟩
theorem cross_ok (h : CrossH s b m a) : ProgOk (crossL A c s) (crossP b m (b + m + a)) := by
  obtain ⟨e1, e2, e3, e4, e5⟩ := cross_bgn h
  have q1 := h.b0; have q2 := h.m0; have q3 := h.a0; have q4 := h.m1; have q5 := h.bm; have q6 := h.ma; have q7 := h.n; have q8 := h.l
  have p0 : PrtOk (crossL A c s) ⟨0, 0, b + m, 0, 0, m, 1000⟩ := by
    refine ⟨Int.le_refl _, by simp [crossL], Int.le_refl _, by dsimp only; omega, ?_, by dsimp only; omega, by dsimp only; omega, by dsimp only; omega, by dsimp only; omega⟩
    show b + m ≤ (s.length : Int); omega
  have p1 : PrtOk (crossL A c s) ⟨0, b, b + m + a, -m, m, 0, 1000⟩ := by
    refine ⟨Int.le_refl _, by simp [crossL], q1, by dsimp only; omega, ?_, by dsimp only; omega, by dsimp only; omega, by dsimp only; omega, by dsimp only; omega⟩
    show b + m + a ≤ (s.length : Int); omega
  refine ⟨cross_tks h, show 2 ≤ 32 by decide, fun i hi => ?_, fun i hi => ?_, by rw [e5]; omega⟩
  · match i, hi with
    | 0, _ => exact p0
    | 1, _ => exact p1
  · match i, hi with
    | 0, _ => exact ⟨fun _ => by rw [e1]; exact Int.le_refl _, fun h => absurd h (by decide), fun h => absurd h (by decide)⟩
    | 1, _ => exact ⟨fun h => absurd h (by decide), fun _ => by show bgn _ 0 ≤ bgn _ 1 ∧ en _ 0 ≤ en _ 1; rw [e1, e2, e3, e4]; omega, fun h => absurd h (by decide)⟩
theorem cross_at (h : CrossH s b m a) {t : Nat} (ht : (t : Int) < b + m + a) :
    ((t : Int) < b ∨ b + m ≤ t → mixN (crossP b m (b + m + a)) (vR (crossL A c s) (crossP b m (b + m + a))) 2 t = s.getD t default) ∧
    (b ≤ t → (t : Int) < b + m → (amt (mixN (crossP b m (b + m + a)) (vR (crossL A c s) (crossP b m (b + m + a))) 2 t).l ≤ amt (s.getD t default).l ∧ amt ((mixN (crossP b m (b + m + a)) (vR (crossL A c s) (crossP b m (b + m + a))) 2 t).l - (s.getD t default).l) ≤ 1) ∧
      (amt (mixN (crossP b m (b + m + a)) (vR (crossL A c s) (crossP b m (b + m + a))) 2 t).r ≤ amt (s.getD t default).r ∧ amt ((mixN (crossP b m (b + m + a)) (vR (crossL A c s) (crossP b m (b + m + a))) 2 t).r - (s.getD t default).r) ≤ 1)) := by
  obtain ⟨e1, e2, e3, e4, e5⟩ := cross_bgn h
  have q1 := h.b0; have q2 := h.m0; have q3 := h.a0; have q5 := h.bm; have q6 := h.ma
  have v0 : ∀ k : Int, vR (crossL A c s) (crossP b m (b + m + a)) 0 k = snd (crossL A c s) ⟨0, 0, b + m, 0, 0, m, 1000⟩ k 1000 := fun k => rfl
  have v1 : ∀ k : Int, vR (crossL A c s) (crossP b m (b + m + a)) 1 k = snd (crossL A c s) ⟨0, b, b + m + a, -m, m, 0, 1000⟩ k 1000 := fun k => rfl
  have s0 : smp (crossL A c s) ⟨0, 0, b + m, 0, 0, m, 1000⟩ (t - 0) = s.getD t default := by
    show s.getD (0 + ((t : Int) - 0)).toNat default = _; rw [show (0 + ((t : Int) - 0)).toNat = t by omega]
  have s1 : smp (crossL A c s) ⟨0, b, b + m + a, -m, m, 0, 1000⟩ (t - b) = s.getD t default := by
    show s.getD (b + ((t : Int) - b)).toNat default = _; rw [show (b + ((t : Int) - b)).toNat = t by omega]
  have d0 : gnD ⟨0, 0, b + m, 0, 0, m, 1000⟩ = 1000 * (m + 1) := by simp [gnD]
  have d1 : gnD ⟨0, b, b + m + a, -m, m, 0, 1000⟩ = 1000 * (m + 1) := by simp [gnD]
  have D0 : 0 < 1000 * (m + 1) := by omega
  have n0 : ∀ k : Int, 0 ≤ k → gnN ⟨0, 0, b + m, 0, 0, m, 1000⟩ k 1000 = 1000 * (min (b + m - k - 1) m + 1) := by
    intro k hk; simp only [gnN, up, dn, lng]; rw [Int.min_eq_right hk]; simp
  have n1 : ∀ k : Int, k < m + a → gnN ⟨0, b, b + m + a, -m, m, 0, 1000⟩ k 1000 = 1000 * (min k m + 1) := by
    intro k hk; simp only [gnN, up, dn, lng]; rw [Int.min_eq_right (a := b + m + a - b - k - 1) (by omega)]; simp
  have hz : ∀ z : Sam, sad ⟨0, 0⟩ z = z := by intro z; simp [sad]
  simp only [mixN, e1, e2, e3, e4, v0, v1]
  refine ⟨?_, ?_⟩
  · rintro (hb | hb)
    · rw [if_neg (by omega), if_pos (by omega), hz]
      simp only [snd, s0, ld, d0, n0 _ (show 0 ≤ (t : Int) - 0 by omega)]
      rw [Int.min_eq_right (by omega), tdiv_self_mul D0, tdiv_self_mul D0]
    · rw [if_pos (by omega), if_neg (by omega), hz]
      simp only [snd, s1, ld, d1, n1 _ (show (t : Int) - b < m + a by omega)]
      rw [Int.min_eq_right (by omega), tdiv_self_mul D0, tdiv_self_mul D0]
  · intro h1 h2
    rw [if_pos (by omega), if_pos (by omega), hz]
    simp only [snd, sad, s0, s1, ld, d0, d1, n0 _ (show 0 ≤ (t : Int) - 0 by omega), n1 _ (show (t : Int) - b < m + a by omega)]
    rw [Int.min_eq_left (a := b + m - ((t : Int) - 0) - 1) (by omega), Int.min_eq_left (a := (t : Int) - b) (by omega)]
    exact ⟨tdiv_sum D0 (by omega) (by omega) (by omega), tdiv_sum D0 (by omega) (by omega) (by omega)⟩
theorem cross_err (h : CrossH s b m a) : rErr (crossL A c s) (crossP b m (b + m + a)) = 0 := by
  obtain ⟨e1, e2, e3, e4, e5⟩ := cross_bgn h
  have hok := cross_ok (A := A) (c := c) h
  have q2 := h.m0; have q7 := h.n; have q8 := h.l
  rw [rErr, if_pos (gErr_zero.2 hok), if_pos]
  have hl : (rend (crossL A c s) (crossP b m (b + m + a))).length = (b + m + a).toNat := by rw [rend, mix_len, e5]
  refine sErr_zero.2 ⟨by omega, all_getD.2 fun t ht => ?_⟩
  rw [rend, mix_get (by rw [e5]; omega), show (crossP b m (b + m + a)).length = 2 from rfl]
  have hs := Sam.ok_iff.1 (all_getD.1 h.ok t (by omega))
  have hc := cross_at (A := A) (c := c) h (t := t) (by omega)
  rw [Sam.ok_iff]
  by_cases hq : (t : Int) < b ∨ b + m ≤ t
  · rw [hc.1 hq]; exact hs
  · have := hc.2 (by omega) (by omega)
    unfold amt at this
    omega
end
end Go.Proofs.YtnklkobhjdkblaaDoor
