/- Binomials, the ways of a sample, and samplings, in plain Lean. -/
import Derived.Test.YtfaggcmcfhljpaaSx1
namespace Go.Proofs.Ytfaggcmcfhljpaa

/-- Pascal's triangle -/
def ch : Nat → Nat → Nat
  | _, 0 => 1
  | 0, _ + 1 => 0
  | n + 1, k + 1 => ch n k + ch n (k + 1)
theorem ch_zero (n : Nat) : ch n 0 = 1 := by cases n <;> rfl
theorem ch_succ (n k : Nat) : ch (n + 1) (k + 1) = ch n k + ch n (k + 1) := rfl
theorem ch_gt : ∀ {n k : Nat}, n < k → ch n k = 0
  | 0, 0, h => by omega
  | 0, k + 1, _ => rfl
  | n + 1, 0, h => by omega
  | n + 1, k + 1, h => by rw [ch_succ, ch_gt (n := n) (k := k) (by omega), ch_gt (n := n) (k := k + 1) (by omega)]
theorem ch_self : ∀ n : Nat, ch n n = 1
  | 0 => rfl
  | n + 1 => by rw [ch_succ, ch_self n, ch_gt (by omega)]
theorem ch_pow : ∀ n k : Nat, ch n k ≤ 2 ^ n
  | 0, 0 => by decide
  | 0, k + 1 => by rw [ch_gt (by omega)]; omega
  | n + 1, 0 => by rw [ch_zero]; exact Nat.one_le_two_pow
  | n + 1, k + 1 => by
    have h1 := ch_pow n k
    have h2 := ch_pow n (k + 1)
    rw [ch_succ, Nat.pow_succ]; omega
theorem ch_pos : ∀ {n k : Nat}, k ≤ n → 0 < ch n k
  | n, 0, _ => by rw [ch_zero]; omega
  | 0, k + 1, h => by omega
  | n + 1, k + 1, h => by rw [ch_succ]; have := ch_pos (n := n) (k := k) (by omega); omega
theorem ch_mul : ∀ n k : Nat, (k + 1) * ch (n + 1) (k + 1) = (n + 1) * ch n k
  | 0, 0 => rfl
  | 0, k + 1 => by rw [ch_gt (n := 0 + 1) (by omega), ch_gt (n := 0) (by omega), Nat.mul_zero, Nat.mul_zero]
  | n + 1, 0 => by
    have h := ch_mul n 0
    rw [ch_zero] at h
    rw [ch_succ (n + 1) 0, ch_zero]
    omega
  | n + 1, k + 1 => by
    have h1 := ch_mul n (k + 1)
    have h2 := ch_mul n k
    have e : ch (n + 1 + 1) (k + 1 + 1) = ch (n + 1) (k + 1) + ch (n + 1) (k + 1 + 1) := rfl
    have e2 : ch (n + 1) (k + 1) = ch n k + ch n (k + 1) := rfl
    rw [e, Nat.mul_add, h1]
    have e3 : (k + 1 + 1) * ch (n + 1) (k + 1) = (k + 1) * ch (n + 1) (k + 1) + ch (n + 1) (k + 1) := Nat.succ_mul _ _
    rw [e3, h2, show (n + 1 + 1) * ch (n + 1) (k + 1) = (n + 1) * ch (n + 1) (k + 1) + ch (n + 1) (k + 1) from Nat.succ_mul _ _, e2, Nat.mul_add]
    omega

def fac : Nat → Nat
  | 0 => 1
  | n + 1 => (n + 1) * fac n
theorem fac_pos : ∀ n, 0 < fac n
  | 0 => by decide
  | n + 1 => Nat.mul_pos (by omega) (fac_pos n)
theorem ch_fac : ∀ a b : Nat, ch (a + b) a * (fac a * fac b) = fac (a + b)
  | 0, b => by rw [ch_zero, Nat.zero_add]; simp [fac]
  | a + 1, b => by
    have h := ch_mul (a + b) a
    have ih := ch_fac a b
    have e : a + 1 + b = a + b + 1 := by omega
    rw [e]
    calc ch (a + b + 1) (a + 1) * (fac (a + 1) * fac b) = ((a + 1) * ch (a + b + 1) (a + 1)) * (fac a * fac b) := by simp only [fac]; ac_rfl
      _ = ((a + b + 1) * ch (a + b) a) * (fac a * fac b) := by rw [h]
      _ = (a + b + 1) * (ch (a + b) a * (fac a * fac b)) := by ac_rfl
      _ = fac (a + b + 1) := by rw [ih]; rfl

/-- ch m (s - k), 0 if k is beyond s -/
def cz (m s k : Nat) : Nat := if k ≤ s then ch m (s - k) else 0
theorem cz_zero (m s : Nat) : cz m s 0 = ch m s := rfl
theorem cz_gt {m s k : Nat} (h : s < k) : cz m s k = 0 := if_neg (by omega)
theorem cz_succ (m s k : Nat) : cz m (s + 1) (k + 1) = cz m s k := by
  unfold cz
  by_cases h : k ≤ s
  · rw [if_pos h, if_pos (by omega), show s + 1 - (k + 1) = s - k by omega]
  · rw [if_neg h, if_neg (by omega)]
theorem cz_step (m s k : Nat) : cz (m + 1) s k = cz m s k + cz m s (k + 1) := by
  unfold cz
  rcases Nat.lt_trichotomy k s with h | h | h
  · rw [if_pos (by omega), if_pos (by omega), if_pos (by omega)]
    obtain ⟨q, hq⟩ : ∃ q, s - k = q + 1 := ⟨s - k - 1, by omega⟩
    rw [hq, show s - (k + 1) = q by omega, ch_succ]; omega
  · subst h
    rw [if_pos (by omega), if_pos (by omega), if_neg (by omega), Nat.sub_self, ch_zero, ch_zero]
  · rw [if_neg (by omega), if_neg (by omega), if_neg (by omega)]

/-- the first c terms of the ways: b bad ones, m good ones, a sample of s -/
def wy (b m s : Nat) : Nat → Nat
  | 0 => 0
  | c + 1 => wy b m s c + ch b c * cz m s c
theorem wy_mono {b m s : Nat} {c : Nat} : ∀ d, wy b m s c ≤ wy b m s (c + d)
  | 0 => Nat.le_refl _
  | d + 1 => Nat.le_trans (wy_mono d) (Nat.le_add_right _ _)
theorem wy_le {b m s c d : Nat} (h : c ≤ d) : wy b m s c ≤ wy b m s d := by
  obtain ⟨q, rfl⟩ := Nat.exists_eq_add_of_le h
  exact wy_mono q
theorem wy_van : ∀ (b m s N : Nat), s < N → wy b m s N = ch (b + m) s
  | 0, m, s, N, h => by
    have : ∀ q, wy 0 m s (q + 1) = ch m s := by
      intro q
      induction q with
      | zero => show 0 + ch 0 0 * cz m s 0 = ch m s; rw [ch_zero, cz_zero]; omega
      | succ q ih =>
        have e : wy 0 m s (q + 1 + 1) = wy 0 m s (q + 1) + ch 0 (q + 1) * cz m s (q + 1) := rfl
        rw [e, ih, ch_gt (n := 0) (k := q + 1) (by omega), Nat.zero_mul, Nat.add_zero]
    obtain ⟨q, rfl⟩ : ∃ q, N = q + 1 := ⟨N - 1, by omega⟩
    rw [this q, Nat.zero_add]
  | b + 1, m, 0, N, h => by
    have : ∀ q, wy (b + 1) m 0 (q + 1) = 1 := by
      intro q
      induction q with
      | zero => show 0 + ch (b + 1) 0 * cz m 0 0 = 1; rw [ch_zero, cz_zero, ch_zero]
      | succ q ih =>
        have e : wy (b + 1) m 0 (q + 1 + 1) = wy (b + 1) m 0 (q + 1) + ch (b + 1) (q + 1) * cz m 0 (q + 1) := rfl
        rw [e, ih, cz_gt (by omega), Nat.mul_zero]
    obtain ⟨q, rfl⟩ : ∃ q, N = q + 1 := ⟨N - 1, by omega⟩
    rw [this q, ch_zero]
  | b + 1, m, s + 1, N, h => by
    have key : ∀ q, wy (b + 1) m (s + 1) (q + 1) = wy b m (s + 1) (q + 1) + wy b m s q := by
      intro q
      induction q with
      | zero => show 0 + ch (b + 1) 0 * cz m (s + 1) 0 = 0 + ch b 0 * cz m (s + 1) 0 + 0; rw [ch_zero, ch_zero]; rfl
      | succ q ih =>
        have e1 : wy (b + 1) m (s + 1) (q + 1 + 1) = wy (b + 1) m (s + 1) (q + 1) + ch (b + 1) (q + 1) * cz m (s + 1) (q + 1) := rfl
        have e2 : wy b m (s + 1) (q + 1 + 1) = wy b m (s + 1) (q + 1) + ch b (q + 1) * cz m (s + 1) (q + 1) := rfl
        have e3 : wy b m s (q + 1) = wy b m s q + ch b q * cz m s q := rfl
        rw [e1, e2, e3, ih, ch_succ, Nat.add_mul, cz_succ]; omega
    obtain ⟨q, rfl⟩ : ∃ q, N = q + 1 := ⟨N - 1, by omega⟩
    rw [key q, wy_van b m (s + 1) (q + 1) h, wy_van b m s q (by omega), show b + 1 + m = (b + m) + 1 by omega, ch_succ]; omega
theorem wy_all (b m s c : Nat) : wy b m s c ≤ ch (b + m) s := by
  rcases Nat.lt_or_ge s c with h | h
  · rw [wy_van b m s c h]; exact Nat.le_refl _
  · have := wy_le (b := b) (m := m) (s := s) (c := c) (d := s + 1) (by omega)
    rwa [wy_van b m s (s + 1) (by omega)] at this
/-- beyond the sample, and beyond the bad ones, nothing is added -/
theorem wy_end {b m s c : Nat} (h : min s b < c) : wy b m s c = ch (b + m) s := by
  rcases Nat.lt_or_ge s c with h1 | h1
  · exact wy_van b m s c h1
  · have key : ∀ d, wy b m s (c + d) = wy b m s c := by
      intro d
      induction d with
      | zero => rfl
      | succ d ih =>
        have e : wy b m s (c + (d + 1)) = wy b m s (c + d) + ch b (c + d) * cz m s (c + d) := rfl
        rw [e, ih, ch_gt (by omega), Nat.zero_mul, Nat.add_zero]
    have := key (s + 1 - c)
    rw [show c + (s + 1 - c) = s + 1 by omega, wy_van b m s (s + 1) (by omega)] at this
    exact this.symm
/-- one bad disc more -/
theorem wy_bad (b m s : Nat) : ∀ c, wy (b + 1) m s c ≤ wy b (m + 1) s c := by
  have key : ∀ c, wy b (m + 1) s (c + 1) = wy (b + 1) m s (c + 1) + ch b c * cz m s (c + 1) := by
    intro c
    induction c with
    | zero => show 0 + ch b 0 * cz (m + 1) s 0 = 0 + ch (b + 1) 0 * cz m s 0 + ch b 0 * cz m s (0 + 1); rw [ch_zero, ch_zero, cz_step]; omega
    | succ c ih =>
      have e1 : wy b (m + 1) s (c + 1 + 1) = wy b (m + 1) s (c + 1) + ch b (c + 1) * cz (m + 1) s (c + 1) := rfl
      have e2 : wy (b + 1) m s (c + 1 + 1) = wy (b + 1) m s (c + 1) + ch (b + 1) (c + 1) * cz m s (c + 1) := rfl
      rw [e1, e2, ih, cz_step, ch_succ, Nat.mul_add, Nat.add_mul]; omega
  intro c
  cases c with
  | zero => exact Nat.le_refl _
  | succ c => have := key c; omega
theorem wy_bads {b m s c : Nat} : ∀ d, wy (b + d) m s c ≤ wy b (m + d) s c
  | 0 => Nat.le_refl _
  | d + 1 => by
    have h1 := wy_bad (b + d) m s c
    have h2 := wy_bads (b := b) (m := m + 1) (s := s) (c := c) d
    rw [show m + (d + 1) = m + 1 + d by omega]
    exact Nat.le_trans h1 h2
/-- a term of the ways -/
theorem term_fac {n b s k : Nat} (hb : b ≤ n) (hk : k ≤ b) (hks : k ≤ s) (hr : s - k ≤ n - b) : ch n b * (ch b k * cz (n - b) s k) * (fac k * fac (b - k) * (fac (s - k) * fac (n - b - (s - k)))) = fac n := by
  have h1 := ch_fac b (n - b)
  have h2 := ch_fac k (b - k)
  have h3 := ch_fac (s - k) (n - b - (s - k))
  rw [show b + (n - b) = n by omega] at h1
  rw [show k + (b - k) = b by omega] at h2
  rw [show s - k + (n - b - (s - k)) = n - b by omega] at h3
  unfold cz
  rw [if_pos hks]
  calc ch n b * (ch b k * ch (n - b) (s - k)) * (fac k * fac (b - k) * (fac (s - k) * fac (n - b - (s - k)))) = ch n b * ((ch b k * (fac k * fac (b - k))) * (ch (n - b) (s - k) * (fac (s - k) * fac (n - b - (s - k))))) := by ac_rfl
    _ = fac n := by rw [h2, h3, h1]
theorem term_swap {n b s k : Nat} (hb : b ≤ n) (hs : s ≤ n) : ch n b * (ch b k * cz (n - b) s k) = ch n s * (ch s k * cz (n - s) b k) := by
  by_cases hk : k ≤ b
  · by_cases hks : k ≤ s
    · by_cases hr : s - k ≤ n - b
      · have h1 := term_fac hb hk hks hr
        have h2 := term_fac hs hks hk (by omega)
        rw [show n - s - (b - k) = n - b - (s - k) by omega] at h2
        have hp : 0 < fac k * fac (b - k) * (fac (s - k) * fac (n - b - (s - k))) := Nat.mul_pos (Nat.mul_pos (fac_pos _) (fac_pos _)) (Nat.mul_pos (fac_pos _) (fac_pos _))
        apply Nat.eq_of_mul_eq_mul_right hp
        rw [h1, ← h2]; ac_rfl
      · have e1 : cz (n - b) s k = 0 := by unfold cz; rw [if_pos hks]; exact ch_gt (by omega)
        have e2 : cz (n - s) b k = 0 := by unfold cz; rw [if_pos hk]; exact ch_gt (by omega)
        rw [e1, e2]; simp
    · rw [cz_gt (by omega), ch_gt (n := s) (by omega)]; simp
  · rw [cz_gt (s := b) (by omega), ch_gt (n := b) (by omega)]; simp
/-- a sample and the bad discs are exchanged -/
theorem wy_swap {n b s : Nat} (hb : b ≤ n) (hs : s ≤ n) : ∀ c, wy b (n - b) s c * ch n b = wy s (n - s) b c * ch n s
  | 0 => by simp [wy]
  | c + 1 => by
    have ih := wy_swap hb hs c
    have h := term_swap (k := c) hb hs
    have e1 : wy b (n - b) s (c + 1) = wy b (n - b) s c + ch b c * cz (n - b) s c := rfl
    have e2 : wy s (n - s) b (c + 1) = wy s (n - s) b c + ch s c * cz (n - s) b c := rfl
    have h' : ch b c * cz (n - b) s c * ch n b = ch s c * cz (n - s) b c * ch n s := by rw [Nat.mul_comm, h, Nat.mul_comm]
    rw [e1, e2, Nat.add_mul, Nat.add_mul, ih, h']

/-! samplings -/
structure Dmd where
  n : Int
  g : Int
  b : Int
  r : Int
  a : Int
structure Dmd.Ok (d : Dmd) : Prop where
  n : 0 ≤ d.n ∧ d.n ≤ 50
  g : 0 ≤ d.g
  b : d.g < d.b ∧ d.b ≤ d.n
  r : 0 ≤ d.r ∧ d.r ≤ 1000
  a : 0 ≤ d.a ∧ d.a ≤ 1000
/-- the ways: a lot of n, b of them bad, a sample of s, at most c of them bad -/
def ways (n b s c : Int) : Int := (wy b.toNat (n - b).toNat s.toNat (c + 1).toNat : Nat)
def choo (n s : Int) : Int := (ch n.toNat s.toNat : Nat)
def Dmd.hold (d : Dmd) (s c : Int) : Bool := decide (1000 * (choo d.n s - ways d.n d.g s c) ≤ d.r * choo d.n s) && decide (1000 * ways d.n d.b s c ≤ d.a * choo d.n s)
theorem ways_bd {n b s c : Int} (hb : 0 ≤ b ∧ b ≤ n) : 0 ≤ ways n b s c ∧ ways n b s c ≤ choo n s := by
  unfold ways choo
  have := wy_all b.toNat (n - b).toNat s.toNat (c + 1).toNat
  rw [show b.toNat + (n - b).toNat = n.toNat by omega] at this
  omega
theorem choo_bd {n s : Int} (hn : n ≤ 50) : 0 ≤ choo n s ∧ choo n s ≤ 1125899906842624 := by
  unfold choo
  have h1 := ch_pow n.toNat s.toNat
  have h2 : 2 ^ n.toNat ≤ 2 ^ 50 := Nat.pow_le_pow_right (by decide) (by omega)
  have h3 : (2 : Nat) ^ 50 = 1125899906842624 := by decide
  omega
/-- the least sampling that holds -/
structure Samp (d : Dmd) (s c : Int) : Prop where
  hs : 0 ≤ s ∧ s ≤ d.n
  hc : 0 ≤ c ∧ c ≤ d.n
  hold : d.hold s c = true
  noc : ∀ c', 0 ≤ c' → c' < c → d.hold s c' = false
  nos : ∀ s' c', 0 ≤ s' → s' < s → 0 ≤ c' → c' ≤ d.n → d.hold s' c' = false
theorem Samp.unique {d : Dmd} {s c s' c' : Int} (h : Samp d s c) (h' : Samp d s' c') : s = s' ∧ c = c' := by
  have e : s = s' := by
    rcases Int.lt_trichotomy s s' with h1 | h1 | h1
    · have := h'.nos s c h.hs.1 h1 h.hc.1 h.hc.2; rw [h.hold] at this; cases this
    · exact h1
    · have := h.nos s' c' h'.hs.1 h1 h'.hc.1 h'.hc.2; rw [h'.hold] at this; cases this
  subst e
  refine ⟨rfl, ?_⟩
  rcases Int.lt_trichotomy c c' with h1 | h1 | h1
  · have := h'.noc c h.hc.1 h1; rw [h.hold] at this; cases this
  · exact h1
  · have := h.noc c' h'.hc.1 h1; rw [h'.hold] at this; cases this
/-- the whole lot, with all good ones' bad discs accepted, holds -/
theorem hold_whole {d : Dmd} (h : d.Ok) : d.hold d.n d.g = true := by
  obtain ⟨h1, h2, h3, h4, h5⟩ := h
  have hall : choo d.n d.n = 1 := by unfold choo; rw [ch_self]; rfl
  have hg : ways d.n d.g d.n d.g = 1 := by
    unfold ways
    rw [wy_end (by omega), show d.g.toNat + (d.n - d.g).toNat = d.n.toNat by omega, ch_self]; rfl
  have hb : ways d.n d.b d.n d.g = 0 := by
    have key : ∀ c, c ≤ d.b.toNat → wy d.b.toNat (d.n - d.b).toNat d.n.toNat c = 0 := by
      intro c
      induction c with
      | zero => intro _; rfl
      | succ c ih =>
        intro hc
        have e : wy d.b.toNat (d.n - d.b).toNat d.n.toNat (c + 1) = wy d.b.toNat (d.n - d.b).toNat d.n.toNat c + ch d.b.toNat c * cz (d.n - d.b).toNat d.n.toNat c := rfl
        have e2 : cz (d.n - d.b).toNat d.n.toNat c = 0 := by unfold cz; rw [if_pos (by omega)]; exact ch_gt (by omega)
        rw [e, ih (by omega), e2]; rfl
    unfold ways
    rw [key _ (by omega)]; rfl
  unfold Dmd.hold
  rw [hall, hg, hb]
  simp; omega
/-- milder demands -/
theorem hold_milder {d d' : Dmd} (h : d.Ok) (h' : d'.Ok) (hn : d'.n = d.n) (hg : d'.g ≤ d.g) (hb : d.b ≤ d'.b) (hr : d.r ≤ d'.r) (ha : d.a ≤ d'.a) {s c : Int} (hh : d.hold s c = true) : d'.hold s c = true := by
  unfold Dmd.hold at hh ⊢
  simp only [Bool.and_eq_true, decide_eq_true_eq] at hh ⊢
  rw [hn]
  have hall := choo_bd (n := d.n) (s := s) h.n.2
  have w1 : ways d.n d.g s c ≤ ways d.n d'.g s c := by
    unfold ways
    have h1 := h.b; have h2 := h'.g
    have := wy_bads (b := d'.g.toNat) (m := (d.n - d.g).toNat) (s := s.toNat) (c := (c + 1).toNat) (d.g - d'.g).toNat
    rw [show d'.g.toNat + (d.g - d'.g).toNat = d.g.toNat by omega, show (d.n - d.g).toNat + (d.g - d'.g).toNat = (d.n - d'.g).toNat by omega] at this
    omega
  have w2 : ways d.n d'.b s c ≤ ways d.n d.b s c := by
    unfold ways
    have h1 := h.b; have h2 := h'.b; have h3 := h.g
    have := wy_bads (b := d.b.toNat) (m := (d.n - d'.b).toNat) (s := s.toNat) (c := (c + 1).toNat) (d'.b - d.b).toNat
    rw [show d.b.toNat + (d'.b - d.b).toNat = d'.b.toNat by omega, show (d.n - d'.b).toNat + (d'.b - d.b).toNat = (d.n - d.b).toNat by omega] at this
    omega
  have m1 : d.r * choo d.n s ≤ d'.r * choo d.n s := Int.mul_le_mul_of_nonneg_right hr hall.1
  have m2 : d.a * choo d.n s ≤ d'.a * choo d.n s := Int.mul_le_mul_of_nonneg_right ha hall.1
  omega
end Go.Proofs.Ytfaggcmcfhljpaa
