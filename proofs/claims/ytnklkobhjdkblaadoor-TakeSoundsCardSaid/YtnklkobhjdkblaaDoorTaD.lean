/- One part alone, in plain Lean: plain, silent, and how fades rise and fall. -/
import Derived.Test.YtnklkobhjdkblaaDoorTaC
namespace Go.Proofs.YtnklkobhjdkblaaDoor
open Go.Sx

theorem one_bgn (y : Prt) (hg : y.gap = 0) : bgn [y] 0 = 0 ∧ en [y] 0 = lng y ∧ fin [y] = lng y := by
  simp [bgn, en, lng, fin, pt, hg]
theorem one_prog {t : Tk} {y : Prt} (ht : TksOk [t]) (hy : PrtOk [t] y) (hg : y.gap = 0) : ProgOk [t] [y] := by
  obtain ⟨e1, e2, e3⟩ := one_bgn y hg
  have htk : tkOf [t] y = t := by
    have a := hy.tk0; have b := hy.tk1
    simp only [List.length_singleton] at b
    obtain h : y.tk = 0 := by omega
    unfold tkOf; rw [h]; rfl
  have hl : t.data.length ≤ 4096 := (tErr_zero.1 (ht.each t (by simp))).1
  refine ⟨ht, show 1 ≤ 32 by decide, fun i hi => ?_, fun i hi => ?_, ?_⟩
  · match i, hi with
    | 0, _ => exact hy
  · match i, hi with
    | 0, _ => exact ⟨fun _ => by rw [e1]; exact Int.le_refl _, fun h => absurd h (by decide), fun h => absurd h (by decide)⟩
  · rw [e3]
    have h1 := hy.to1; have h2 := hy.fr0
    rw [htk] at h1
    unfold lng; omega
theorem one_rend {t : Tk} {y : Prt} (hg : y.gap = 0) {k : Nat} (hk : (k : Int) < lng y) : (rend [t] [y]).getD k default = snd [t] y k y.lev := by
  obtain ⟨e1, e2, e3⟩ := one_bgn y hg
  rw [rend, mix_get (by rw [e3]; omega)]
  show mixN [y] _ 1 k = _
  unfold mixN mixN
  rw [e1, e2, if_pos (by omega), Int.sub_zero]
  simp [sad, vR, pt]
theorem one_len {t : Tk} {y : Prt} (hg : y.gap = 0) : (rend [t] [y]).length = (lng y).toNat := by rw [rend, mix_len, (one_bgn y hg).2.2]
theorem snd_plain {t : Tk} {y : Prt} (h1 : y.inn = 0) (h2 : y.out = 0) (h3 : y.lev = 1000) {k : Int} (h0 : 0 ≤ k) (hk : k < lng y) : snd [t] y k y.lev = smp [t] y k := by
  have hN : gnN y k y.lev = 1000 := by unfold gnN up dn; rw [h1, h2, h3, Int.min_eq_right h0, Int.min_eq_right (by omega)]; rfl
  have hD : gnD y = 1000 := by unfold gnD; rw [h1, h2]; rfl
  unfold snd ld
  rw [hN, hD, Int.mul_tdiv_cancel _ (by decide), Int.mul_tdiv_cancel _ (by decide)]
theorem snd_zero {t : Tk} {y : Prt} (h3 : y.lev = 0) {k : Int} : snd [t] y k y.lev = ⟨0, 0⟩ := by
  unfold snd ld gnN
  rw [h3]; simp
theorem one_err {t : Tk} {y : Prt} (h : ProgOk [t] [y]) (hg : y.gap = 0) (hv : ∀ k : Nat, (k : Int) < lng y → (snd [t] y k y.lev).ok = true) : rErr [t] [y] = 0 := by
  rw [rErr, if_pos (gErr_zero.2 h), if_pos]
  have hf := h.fin
  rw [(one_bgn y hg).2.2] at hf
  have hl := one_len (t := t) hg
  refine sErr_zero.2 ⟨by omega, all_getD.2 fun k hk => ?_⟩
  rw [hl] at hk
  rw [one_rend hg (by omega)]
  exact hv k (by omega)
theorem smp_one {t : Tk} {y : Prt} (h : y.tk = 0) (k : Int) : smp [t] y k = t.data.getD (y.fr + k).toNat default := by
  unfold smp tkOf; rw [h]; rfl
theorem getD_drop_take {α : Type} [Inhabited α] {l : List α} {a n k : Nat} (hk : k < n) (hn : a + n ≤ l.length) : ((l.drop a).take n).getD k default = l.getD (a + k) default := by
  have : a + k < l.length := by omega
  simp [List.getD, hk, this]
theorem one_plain {t : Tk} {y : Prt} (h : PrtOk [t] y) (h0 : y.tk = 0) (hg : y.gap = 0) (h1 : y.inn = 0) (h2 : y.out = 0) (h3 : y.lev = 1000) : rend [t] [y] = (t.data.drop y.fr.toNat).take (y.to - y.fr).toNat := by
  have hto := h.to1; have hfr := h.fr0; have hft := h.frto
  rw [show tkOf [t] y = t by unfold tkOf; rw [h0]; rfl] at hto
  have hl := one_len (t := t) hg
  have hlg : lng y = y.to - y.fr := rfl
  apply List.ext_getElem
  · rw [hl, List.length_take, List.length_drop]; omega
  · intro i a b
    rw [hl] at a
    have e1 := one_rend (t := t) hg (k := i) (by omega)
    rw [snd_plain h1 h2 h3 (by omega) (by omega), smp_one h0] at e1
    rw [show (y.fr + (i : Int)).toNat = y.fr.toNat + i by omega, ← getD_drop_take (l := t.data) (a := y.fr.toNat) (n := (y.to - y.fr).toNat) (k := i) (by omega) (by omega), List.getD, List.getElem?_eq_getElem (by omega), List.getD, List.getElem?_eq_getElem b] at e1
    exact e1
theorem one_silent {t : Tk} {y : Prt} (hg : y.gap = 0) (h3 : y.lev = 0) : rend [t] [y] = List.replicate (lng y).toNat ⟨0, 0⟩ := by
  have hl := one_len (t := t) hg
  apply List.ext_getElem
  · rw [hl, List.length_replicate]
  · intro i a b
    rw [hl] at a
    have e1 := one_rend (t := t) hg (k := i) (by omega)
    rw [snd_zero h3, List.getD, List.getElem?_eq_getElem (by omega)] at e1
    rw [List.getElem_replicate]
    exact e1

theorem tk_one {t : Tk} {y : Prt} (h0 : y.tk = 0) : tkOf [t] y = t := by unfold tkOf; rw [h0]; rfl
theorem one_err_plain {t : Tk} {y : Prt} (hT : TksOk [t]) (h : PrtOk [t] y) (h0 : y.tk = 0) (hg : y.gap = 0) (h1 : y.inn = 0) (h2 : y.out = 0) (h3 : y.lev = 1000) : rErr [t] [y] = 0 := by
  refine one_err (one_prog hT h hg) hg fun k hk => ?_
  have hto := h.to1; have hfr := h.fr0
  rw [tk_one h0] at hto
  have ha := (tErr_zero.1 (hT.each t (by simp))).2.2.2
  have hlg : lng y = y.to - y.fr := rfl
  rw [snd_plain h1 h2 h3 (by omega) hk, smp_one h0]
  exact all_getD.1 ha _ (by omega)
theorem one_err_silent {t : Tk} {y : Prt} (hT : TksOk [t]) (h : PrtOk [t] y) (hg : y.gap = 0) (h3 : y.lev = 0) : rErr [t] [y] = 0 := by
  refine one_err (one_prog hT h hg) hg fun k hk => ?_
  rw [snd_zero h3]; rfl
/-- the take with the same sample everywhere -/
def sameT (t : Tk) (A : Option Addr) (c : Nat) : Tk := ⟨t.name, A, c, List.replicate t.data.length (t.data.getD 0 default)⟩
theorem same_tks {t : Tk} {A : Option Addr} {c : Nat} (h : TksOk [t]) : TksOk [sameT t A c] := by
  obtain ⟨h1, h2, h3, h4⟩ := tErr_zero.1 (h.each t (by simp))
  refine ⟨Nat.le_refl _, show 1 ≤ 16 by decide, fun s hs => ?_, by simp⟩
  rw [List.mem_singleton] at hs; subst hs
  refine tErr_zero.2 ⟨by simpa [sameT] using h1, h2, by simpa [sameT] using h3, ?_⟩
  rw [List.all_eq_true]
  intro x hx
  rw [(List.mem_replicate.1 hx).2]
  exact all_getD.1 h4 0 h3
theorem same_prt {t : Tk} {A : Option Addr} {c : Nat} {y : Prt} (h : PrtOk [t] y) (h0 : y.tk = 0) : PrtOk [sameT t A c] y := by
  have hto := h.to1
  rw [tk_one h0] at hto
  refine ⟨h.tk0, h.tk1, h.fr0, h.frto, ?_, h.gap, h.inn, h.out, h.lev⟩
  rw [tk_one h0]; simpa [sameT] using hto
theorem same_snd {t : Tk} {A : Option Addr} {c : Nat} {y : Prt} (h : PrtOk [t] y) (h0 : y.tk = 0) {k : Int} (hk0 : 0 ≤ k) (hk : k < lng y) : (snd [sameT t A c] y k y.lev).l = ld (t.data.getD 0 default).l y k y.lev := by
  have hto := h.to1; have hfr := h.fr0
  rw [tk_one h0] at hto
  have hlg : lng y = y.to - y.fr := rfl
  have e : smp [sameT t A c] y k = t.data.getD 0 default := by
    rw [smp_one h0]
    have : (y.fr + k).toNat < t.data.length := by omega
    simp [sameT, List.getD, this]
  unfold snd; rw [e]
theorem mul_nn {a b : Int} (h1 : 0 ≤ b → 0 ≤ a) (h2 : b ≤ 0 → a ≤ 0) : 0 ≤ a * b := by
  rcases Int.le_total 0 b with h | h
  · exact Int.mul_nonneg (h1 h) h
  · have := Int.mul_nonneg (a := -a) (b := -b) (by have := h2 h; omega) (by omega)
    rwa [Int.neg_mul_neg] at this
theorem mul_le {a b A B : Int} (ha : -A ≤ a ∧ a ≤ A) (hb : -B ≤ b ∧ b ≤ B) : a * b ≤ A * B := by
  have h := mul_bd (amt_nonneg a) (A := A) (by unfold amt; omega) (amt_nonneg b) (B := B) (by unfold amt; omega)
  have : a * b ≤ amt a * amt b := by
    unfold amt
    rcases Int.le_total 0 a with h1 | h1 <;> rcases Int.le_total 0 b with h2 | h2
    · rw [Int.max_eq_left (by omega), Int.max_eq_left (by omega)]; exact Int.le_refl _
    · rw [Int.max_eq_left (by omega), Int.max_eq_right (by omega)]
      have := Int.mul_nonneg h1 (show 0 ≤ -b by omega)
      rw [Int.mul_neg] at this ⊢; omega
    · rw [Int.max_eq_right (by omega), Int.max_eq_left (by omega)]
      have := Int.mul_nonneg (show 0 ≤ -a by omega) h2
      rw [Int.neg_mul] at this ⊢; omega
    · rw [Int.max_eq_right (by omega), Int.max_eq_right (by omega), Int.neg_mul_neg]; exact Int.le_refl _
  omega
structure PlF (t : Tk) (y : Prt) (k : Int) : Prop where
  ix : (y.fr + k).toNat < t.data.length
  d : (-32767 ≤ (t.data.getD (y.fr + k).toNat default).l ∧ (t.data.getD (y.fr + k).toNat default).l ≤ 32767) ∧ (-32767 ≤ (t.data.getD (y.fr + k).toNat default).r ∧ (t.data.getD (y.fr + k).toNat default).r ≤ 32767)
  z : (snd [t] y k y.lev).bd 1000000
  cl : 1000 * amt (snd [t] y k y.lev).l ≤ amt (t.data.getD (y.fr + k).toNat default).l * y.lev
  cr : 1000 * amt (snd [t] y k y.lev).r ≤ amt (t.data.getD (y.fr + k).toNat default).r * y.lev
  ml : 0 ≤ amt (t.data.getD (y.fr + k).toNat default).l * y.lev ∧ amt (t.data.getD (y.fr + k).toNat default).l * y.lev ≤ 32767 * 4000
  mr : 0 ≤ amt (t.data.getD (y.fr + k).toNat default).r * y.lev ∧ amt (t.data.getD (y.fr + k).toNat default).r * y.lev ≤ 32767 * 4000
  sl : 0 ≤ (snd [t] y k y.lev).l * (t.data.getD (y.fr + k).toNat default).l ∧ (snd [t] y k y.lev).l * (t.data.getD (y.fr + k).toNat default).l ≤ 1000000 * 32767
  sr : 0 ≤ (snd [t] y k y.lev).r * (t.data.getD (y.fr + k).toNat default).r ∧ (snd [t] y k y.lev).r * (t.data.getD (y.fr + k).toNat default).r ≤ 1000000 * 32767
theorem plF {t : Tk} {y : Prt} (hT : TksOk [t]) (h : PrtOk [t] y) (h0 : y.tk = 0) {k : Int} (hk0 : 0 ≤ k) (hk : k < lng y) : PlF t y k := by
  have hlev := h.lev
  obtain ⟨q1, q2, q3, q4⟩ := smp_ok hT h hk0 hk
  have hz := snd_bd hT h hk0 hk hlev.1 (by omega)
  have es := smp_one (t := t) h0 k
  rw [es] at q3 q4
  rw [tk_one h0] at q1
  have hz2 := hz
  unfold Sam.bd at hz2
  have c1 := ld_bd h (s := (t.data.getD (y.fr + k).toNat default).l) hk0 hk hlev.1
  have c2 := ld_bd h (s := (t.data.getD (y.fr + k).toNat default).r) hk0 hk hlev.1
  have g1 := ld_sign h (s := (t.data.getD (y.fr + k).toNat default).l) hk0 hk hlev.1
  have g2 := ld_sign h (s := (t.data.getD (y.fr + k).toNat default).r) hk0 hk hlev.1
  have e1 : (snd [t] y k y.lev).l = ld (t.data.getD (y.fr + k).toNat default).l y k y.lev := by unfold snd; rw [es]
  have e2 : (snd [t] y k y.lev).r = ld (t.data.getD (y.fr + k).toNat default).r y k y.lev := by unfold snd; rw [es]
  refine ⟨q1, ⟨q3, q4⟩, hz, by rw [e1]; exact c1, by rw [e2]; exact c2, mul_bd (amt_nonneg _) (by unfold amt; omega) hlev.1 hlev.2, mul_bd (amt_nonneg _) (by unfold amt; omega) hlev.1 hlev.2, ⟨?_, mul_le hz2.1 q3⟩, ⟨?_, mul_le hz2.2 q4⟩⟩
  · rw [e1]; exact mul_nn g1.1 g1.2
  · rw [e2]; exact mul_nn g2.1 g2.2

/-! ### how fades rise and fall -/
theorem amt_tdiv {a d : Int} (hd : 0 < d) : amt (a.tdiv d) = (amt a).tdiv d := by
  unfold amt
  rcases Int.le_total 0 a with h | h
  · have := Int.tdiv_nonneg h (show 0 ≤ d by omega)
    rw [Int.max_eq_left (by omega), Int.max_eq_left (by omega)]
  · have := Int.tdiv_nonneg (a := -a) (b := d) (by omega) (by omega)
    rw [Int.neg_tdiv] at this
    rw [Int.max_eq_right (by omega), Int.max_eq_right (by omega), Int.neg_tdiv]
def gg (x : Prt) (k : Int) : Int := up x k * dn x k
theorem gg_fall {x : Prt} {j k : Int} (h0 : 0 ≤ x.inn) (hj : 1 ≤ j) (hjk : j ≤ k) (hk : k < lng x) (hl : gg x j < gg x (j - 1)) (ho : 0 ≤ x.out) : gg x k ≤ gg x (k - 1) := by
  unfold gg at hl ⊢
  have ud : ∀ i : Int, up x i = min i x.inn + 1 := fun i => rfl
  have dd : ∀ i : Int, dn x i = min (lng x - i - 1) x.out + 1 := fun i => rfl
  generalize lng x = L at *
  -- where what rises has ended, it falls
  have flat : ∀ i : Int, i < L → x.inn ≤ i - 1 → up x i * dn x i ≤ up x (i - 1) * dn x (i - 1) := by
    intro i hi hin
    have e1 : up x i = up x (i - 1) := by rw [ud, ud]; omega
    rw [e1]
    exact Int.mul_le_mul_of_nonneg_left (by rw [dd, dd]; omega) (by rw [ud]; omega)
  by_cases hin : x.inn ≤ k - 1
  · exact flat k hk hin
  · have e1 : up x (j - 1) = j := by rw [ud]; omega
    have e2 : up x j = j + 1 := by rw [ud]; omega
    have e3 : up x (k - 1) = k := by rw [ud]; omega
    have e4 : up x k = k + 1 := by rw [ud]; omega
    have hout : L - j - 1 < x.out := by
      rcases Int.lt_or_le (L - j - 1) x.out with h | h
      · exact h
      · exfalso
        have f1 : dn x j = dn x (j - 1) := by rw [dd, dd]; omega
        have f2 : 0 ≤ dn x (j - 1) := by rw [dd]; omega
        rw [e1, e2, f1, Int.add_mul] at hl; omega
    have f1 : dn x (j - 1) = L - j + 1 := by rw [dd]; omega
    have f2 : dn x j = L - j := by rw [dd]; omega
    have f3 : dn x (k - 1) = L - k + 1 := by rw [dd]; omega
    have f4 : dn x k = L - k := by rw [dd]; omega
    rw [e1, e2, f1, f2] at hl
    rw [e3, e4, f3, f4]
    have a1 : (j + 1) * (L - j) = j * (L - j) + (L - j) := by rw [Int.add_mul, Int.one_mul]
    have a2 : j * (L - j + 1) = j * (L - j) + j := by rw [Int.mul_add, Int.mul_one]
    have a3 : (k + 1) * (L - k) = k * (L - k) + (L - k) := by rw [Int.add_mul, Int.one_mul]
    have a4 : k * (L - k + 1) = k * (L - k) + k := by rw [Int.mul_add, Int.mul_one]
    omega
theorem ld_gg {x : Prt} {s k lev : Int} (hN : 0 ≤ gnN x k lev) (hd : 0 < gnD x) : amt (ld s x k lev) = (amt s * lev * gg x k) / gnD x := by
  unfold ld
  rw [amt_tdiv hd, amt_mul hN]
  have e : amt s * gnN x k lev = amt s * lev * gg x k := by unfold gnN gg; rw [Int.mul_assoc lev, ← Int.mul_assoc]
  rw [← e, Int.tdiv_eq_ediv_of_nonneg (Int.mul_nonneg (amt_nonneg s) hN)]
theorem ld_fall {l : List Tk} {x : Prt} (h : PrtOk l x) {s j k : Int} (hj : 1 ≤ j) (hjk : j ≤ k) (hk : k < lng x) (hl : amt (ld s x j x.lev) < amt (ld s x (j - 1) x.lev)) : amt (ld s x k x.lev) ≤ amt (ld s x (k - 1) x.lev) := by
  have hlev := h.lev
  have hd := (gnD_pos h).1
  have g1 := (gnN_bd h (k := j) (lev := x.lev) (by omega) (by omega) hlev.1).1
  have g2 := (gnN_bd h (k := j - 1) (lev := x.lev) (by omega) (by omega) hlev.1).1
  have g3 := (gnN_bd h (k := k) (lev := x.lev) (by omega) (by omega) hlev.1).1
  have g4 := (gnN_bd h (k := k - 1) (lev := x.lev) (by omega) (by omega) hlev.1).1
  rw [ld_gg g1 (by omega), ld_gg g2 (by omega)] at hl
  rw [ld_gg g3 (by omega), ld_gg g4 (by omega)]
  have hc := Int.mul_nonneg (amt_nonneg s) hlev.1
  have hlt : gg x j < gg x (j - 1) := by
    rcases Int.lt_or_le (gg x j) (gg x (j - 1)) with q | q
    · exact q
    · have := Int.ediv_le_ediv (show 0 < gnD x by omega) (Int.mul_le_mul_of_nonneg_left q hc)
      omega
  exact Int.ediv_le_ediv (by omega) (Int.mul_le_mul_of_nonneg_left (gg_fall h.inn.1 hj hjk hk hlt h.out.1) hc)
end Go.Proofs.YtnklkobhjdkblaaDoor
