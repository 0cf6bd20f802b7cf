/- The headroom, in plain Lean. -/
import Derived.Test.YtnklkobhjdkblaaDoorTaF
import Derived.Test.YtnklkobhjdkblaaDoorTaD
namespace Go.Proofs.YtnklkobhjdkblaaDoor
open Go.Sx

def okH (l : List Tk) (p : List Prt) (f : Int) : Bool := decide (sErr (mix p (vH l p f)) = 0)
/-- the sounds of a lesser factor are less -/
structure Le2 (a b : Sam) : Prop where
  l0 : 0 ≤ a.l
  l1 : a.l ≤ b.l
  r0 : 0 ≤ a.r
  r1 : a.r ≤ b.r
theorem mixN_le {p : List Prt} {va vb : Nat → Int → Sam} (h : ∀ i k, i < p.length → 0 ≤ k → k < lng (pt p i) → Le2 (va i k) (vb i k)) : ∀ n t, n ≤ p.length → Le2 (mixN p va n t) (mixN p vb n t) := by
  intro n t
  induction n with
  | zero => intro _; exact ⟨Int.le_refl _, Int.le_refl _, Int.le_refl _, Int.le_refl _⟩
  | succ n ih =>
    intro hn
    have h1 := ih (by omega)
    unfold mixN
    split
    · rename_i hc
      have h2 := h n (t - bgn p n) (by omega) (by omega) (by unfold en at hc; omega)
      exact ⟨by have := h1.l0; have := h2.l0; simp only [sad]; omega, by have := h1.l1; have := h2.l1; simp only [sad]; omega, by have := h1.r0; have := h2.r0; simp only [sad]; omega, by have := h1.r1; have := h2.r1; simp only [sad]; omega⟩
    · exact h1
theorem le_sErr {p : List Prt} {va vb : Nat → Int → Sam} (hf : fin p ≤ 4096) (h : ∀ i k, i < p.length → 0 ≤ k → k < lng (pt p i) → Le2 (va i k) (vb i k)) (hs : sErr (mix p vb) = 0) : sErr (mix p va) = 0 := by
  obtain ⟨_, h2⟩ := sErr_zero.1 hs
  refine sErr_zero.2 ⟨by rw [mix_len]; omega, all_getD.2 fun t ht => ?_⟩
  rw [mix_len] at ht
  have h3 := Sam.ok_iff.1 (all_getD.1 h2 t (by rw [mix_len]; exact ht))
  rw [mix_get ht] at h3 ⊢
  have h4 := mixN_le h p.length t (Nat.le_refl _)
  exact Sam.ok_iff.2 ⟨⟨by have := h4.l0; omega, by have := h4.l1; omega⟩, by have := h4.r0; omega, by have := h4.r1; omega⟩
theorem ld_lev {l : List Tk} {x : Prt} (h : PrtOk l x) {s k a b : Int} (h0 : 0 ≤ k) (h1 : k < lng x) (ha : 0 ≤ a) (hab : a ≤ b) : amt (ld s x k a) ≤ amt (ld s x k b) := by
  have hd := (gnD_pos h).1
  have g1 := (gnN_bd h h0 h1 (lev := a) ha).1
  have g2 := (gnN_bd h h0 h1 (lev := b) (by omega)).1
  have hu := up_bd h h0
  have hn := dn_bd h h1
  have hg : 0 ≤ gg x k := Int.mul_nonneg (by omega) (by omega)
  rw [ld_gg g1 (by omega), ld_gg g2 (by omega)]
  exact Int.ediv_le_ediv (by omega) (Int.mul_le_mul_of_nonneg_right (Int.mul_le_mul_of_nonneg_left hab (amt_nonneg s)) hg)
theorem lev_f {l : List Tk} {x : Prt} (h : PrtOk l x) {f : Int} (h0 : 0 ≤ f) (h1 : f ≤ 4000) : 0 ≤ x.lev * f ∧ x.lev * f ≤ 16000000 ∧ 0 ≤ (x.lev * f).tdiv 1000 ∧ (x.lev * f).tdiv 1000 ≤ 16000 := by
  have hl := h.lev
  have m := mul_bd hl.1 hl.2 h0 h1
  rw [Int.tdiv_eq_ediv_of_nonneg m.1]
  omega
theorem lev_mono {l : List Tk} {x : Prt} (h : PrtOk l x) {f g : Int} (h0 : 0 ≤ f) (hfg : f ≤ g) : (x.lev * f).tdiv 1000 ≤ (x.lev * g).tdiv 1000 := by
  have hl := h.lev
  have m1 := Int.mul_nonneg hl.1 h0
  have m2 := Int.mul_le_mul_of_nonneg_left hfg hl.1
  rw [Int.tdiv_eq_ediv_of_nonneg m1, Int.tdiv_eq_ediv_of_nonneg (by omega)]
  omega
theorem vH_le {l : List Tk} {p : List Prt} (hP : ProgOk l p) {f g : Int} (h0 : 0 ≤ f) (hfg : f ≤ g) : ∀ i k, i < p.length → 0 ≤ k → k < lng (pt p i) → Le2 (vH l p f i k) (vH l p g i k) := by
  intro i k hi hk0 hk
  have ho := hP.each i hi
  have hm := lev_mono ho h0 hfg
  have h1 : 0 ≤ ((pt p i).lev * f).tdiv 1000 := Int.tdiv_nonneg (Int.mul_nonneg ho.lev.1 h0) (by decide)
  exact ⟨amt_nonneg _, ld_lev ho hk0 hk h1 hm, amt_nonneg _, ld_lev ho hk0 hk h1 hm⟩
theorem vH_bd {l : List Tk} {p : List Prt} (hP : ProgOk l p) {f : Int} (h0 : 0 ≤ f) (h1 : f ≤ 4000) : ∀ i k, i < p.length → 0 ≤ k → k < lng (pt p i) → (vH l p f i k).bd 1000000 ∧ (snd l (pt p i) k (((pt p i).lev * f).tdiv 1000)).bd 1000000 := by
  intro i k hi hk0 hk
  have ho := hP.each i hi
  have hl := lev_f ho h0 h1
  have hs := snd_bd hP.tks ho hk0 hk hl.2.2.1 hl.2.2.2
  refine ⟨?_, hs⟩
  unfold Sam.bd at hs ⊢
  unfold vH Sam.amts amt
  dsimp only
  omega
theorem okH_mono {l : List Tk} {p : List Prt} (hP : ProgOk l p) {f g : Int} (h0 : 0 ≤ f) (hfg : f ≤ g) (h : okH l p g = true) : okH l p f = true := by
  unfold okH at h ⊢
  rw [decide_eq_true_iff] at h ⊢
  exact le_sErr hP.fin (vH_le hP h0 hfg) h
theorem okH_zero {l : List Tk} {p : List Prt} (hP : ProgOk l p) : okH l p 0 = true := by
  unfold okH
  rw [decide_eq_true_iff]
  have hz : ∀ i k, vH l p 0 i k = ⟨0, 0⟩ := by
    intro i k; unfold vH snd ld gnN Sam.amts
    simp [amt]
  have hm : ∀ n t, mixN p (vH l p 0) n t = ⟨0, 0⟩ := by
    intro n t
    induction n with
    | zero => rfl
    | succ n ih => unfold mixN; rw [ih, hz]; split <;> rfl
  have hf := hP.fin
  refine sErr_zero.2 ⟨by rw [mix_len]; omega, all_getD.2 fun t ht => ?_⟩
  rw [mix_get (by rw [mix_len] at ht; exact ht), hm]; rfl
def hdN (l : List Tk) (p : List Prt) : Nat → Nat
  | 0 => 0
  | n + 1 => if okH l p ((n + 1 : Nat) : Int) = true then n + 1 else hdN l p n
theorem hdN_le (l : List Tk) (p : List Prt) : ∀ n, hdN l p n ≤ n := by
  intro n
  induction n with
  | zero => exact Nat.le_refl _
  | succ n ih => unfold hdN; split <;> omega
theorem hdN_iff {l : List Tk} {p : List Prt} (hP : ProgOk l p) : ∀ m f : Nat, f ≤ m → (okH l p f = true ↔ f ≤ hdN l p m) := by
  intro m
  induction m with
  | zero => intro f hf; obtain rfl : f = 0 := by omega
            exact ⟨fun _ => Nat.zero_le _, fun _ => okH_zero hP⟩
  | succ m ih =>
    intro f hf
    by_cases hk : okH l p ((m + 1 : Nat) : Int) = true
    · rw [hdN, if_pos hk]
      exact ⟨fun _ => hf, fun _ => okH_mono hP (by omega) (by omega) hk⟩
    · rw [hdN, if_neg hk]
      have hle := hdN_le l p m
      by_cases he : f = m + 1
      · subst he; exact ⟨fun h => absurd h hk, fun h => by omega⟩
      · exact ih f (by omega)
def hd (l : List Tk) (p : List Prt) : Int := hdN l p 4000
theorem hd_bd (l : List Tk) (p : List Prt) : 0 ≤ hd l p ∧ hd l p ≤ 4000 := by have := hdN_le l p 4000; unfold hd; omega
theorem hd_iff {l : List Tk} {p : List Prt} (hP : ProgOk l p) {f : Int} (h0 : 0 ≤ f) (h1 : f ≤ 4000) : okH l p f = true ↔ f ≤ hd l p := by
  have := hdN_iff hP 4000 f.toNat (by omega)
  rw [show ((f.toNat : Nat) : Int) = f by omega] at this
  rw [this]; unfold hd; omega
def hdV (l : List Tk) (p : List Prt) : Int := if gErr l p = 0 then hd l p else 0
/-- what is between two is the least -/
theorem hd_min {l : List Tk} {p a b : List Prt} (hP : ProgOk l p) (hA : ProgOk l a) (hB : ProgOk l b) (h : ∀ f, 0 ≤ f → f ≤ 4000 → (okH l p f = true ↔ okH l a f = true ∧ okH l b f = true)) : hd l p = min (hd l a) (hd l b) := by
  have b1 := hd_bd l p; have b2 := hd_bd l a; have b3 := hd_bd l b
  have h1 := h (hd l p) (by omega) (by omega)
  rw [hd_iff hP (by omega) (by omega), hd_iff hA (by omega) (by omega), hd_iff hB (by omega) (by omega)] at h1
  have h2 := h (min (hd l a) (hd l b)) (by omega) (by omega)
  rw [hd_iff hP (by omega) (by omega), hd_iff hA (by omega) (by omega), hd_iff hB (by omega) (by omega)] at h2
  omega
theorem hd_same {l m : List Tk} {p q : List Prt} (h : ∀ f : Int, okH l p f = okH m q f) : hd l p = hd m q := by
  have : ∀ n, hdN l p n = hdN m q n := by
    intro n
    induction n with
    | zero => rfl
    | succ n ih => unfold hdN; rw [h, ih]
  unfold hd; rw [this]
theorem cut_okH {l : List Tk} {p : List Prt} {n : Nat} {t f : Int} (h : CutH l p n t) : okH l p f = true ↔ okH l (p.take n) f = true ∧ okH l (cutP p n t) f = true := by
  unfold okH
  simp only [decide_eq_true_iff]
  exact cut_err h vH_cutA vH_cutB
end Go.Proofs.YtnklkobhjdkblaaDoor
