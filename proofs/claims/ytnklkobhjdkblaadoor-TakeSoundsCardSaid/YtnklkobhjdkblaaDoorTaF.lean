/- A programme that is cut at a time, in plain Lean. -/
import Derived.Test.YtnklkobhjdkblaaDoorTaE
namespace Go.Proofs.YtnklkobhjdkblaaDoor
open Go.Sx

/-- the first n parts end at t or ahead of it, the others begin at t or behind it -/
structure CutH (l : List Tk) (p : List Prt) (n : Nat) (t : Int) : Prop where
  ok : ProgOk l p
  le : n ≤ p.length
  t0 : 0 ≤ t
  t1 : t ≤ fin p
  fst : ∀ i, i < n → en p i ≤ t
  snd : ∀ i, n ≤ i → i < p.length → t ≤ bgn p i
def cutP (p : List Prt) (n : Nat) (t : Int) : List Prt := (p.drop n).set 0 (gapd (pt p n) (bgn p n - t))
theorem cutP_len (p : List Prt) (n : Nat) (t : Int) : (cutP p n t).length = p.length - n := by simp [cutP]
theorem cutP_get {p : List Prt} {n k : Nat} {t : Int} (hk : n + k < p.length) : pt (cutP p n t) k = if k = 0 then gapd (pt p n) (bgn p n - t) else pt p (n + k) := by
  unfold pt cutP
  rw [List.getD, List.getElem?_set]
  by_cases h : k = 0
  · subst h; rw [if_pos rfl, if_pos rfl, if_pos (by simp; omega)]; rfl
  · rw [if_neg (fun e => h e.symm), if_neg h, List.getElem?_drop]; simp [List.getD]
theorem cutP_lng {p : List Prt} {n k : Nat} {t : Int} (hk : n + k < p.length) : lng (pt (cutP p n t) k) = lng (pt p (n + k)) := by
  rw [cutP_get hk]; split
  · rename_i h; rw [h]; rfl
  · rfl
theorem take_take' {p : List Prt} {n i : Nat} (hi : i ≤ n) : (p.take n).take i = p.take i := by rw [List.take_take, Nat.min_eq_left hi]
theorem pt_take {p : List Prt} {n i : Nat} (hi : i < n) : pt (p.take n) i = pt p i := by simp [pt, List.getD, hi]
theorem bgn_take {p : List Prt} {n i : Nat} (hi : i < n) : bgn (p.take n) i = bgn p i := by unfold bgn; rw [take_take' (by omega), pt_take hi]
theorem en_take {p : List Prt} {n i : Nat} (hi : i < n) : en (p.take n) i = en p i := by unfold en; rw [bgn_take hi, pt_take hi]
theorem bgn_succ' {p : List Prt} {i : Nat} (h0 : 0 < i) (hi : i < p.length) : bgn p i = en p (i - 1) + (pt p i).gap := by
  unfold bgn
  rw [← fin_take (i := i - 1) (by omega), show i - 1 + 1 = i by omega]
theorem cut_bgn {p : List Prt} {n : Nat} {t : Int} : ∀ k, n + k < p.length → bgn (cutP p n t) k = bgn p (n + k) - t ∧ en (cutP p n t) k = en p (n + k) - t := by
  intro k
  induction k with
  | zero =>
    intro hk
    have e : bgn (cutP p n t) 0 = bgn p n - t := by
      unfold bgn
      rw [cutP_get hk, if_pos rfl, List.take_zero, fin_nil, Int.zero_add]; rfl
    exact ⟨e, by unfold en; rw [e, cutP_lng hk]; simp only [Nat.add_zero]; omega⟩
  | succ k ih =>
    intro hk
    have h1 := ih (by omega)
    have e : bgn (cutP p n t) (k + 1) = bgn p (n + (k + 1)) - t := by
      rw [bgn_succ' (p := cutP p n t) (by omega) (by rw [cutP_len]; omega), cutP_get hk, if_neg (by omega), bgn_succ' (p := p) (i := n + (k + 1)) (by omega) hk]
      simp only [Nat.add_sub_cancel]
      rw [h1.2, show n + (k + 1) - 1 = n + k by omega]; omega
    exact ⟨e, by unfold en; rw [e, cutP_lng hk]; omega⟩
theorem fin_last {p : List Prt} (h : 0 < p.length) : fin p = en p (p.length - 1) := by
  have := fin_take (p := p) (i := p.length - 1) (by omega)
  rw [show p.length - 1 + 1 = p.length by omega, fin_all] at this
  exact this
theorem cut_fin {l : List Tk} {p : List Prt} {n : Nat} {t : Int} (h : CutH l p n t) : fin (cutP p n t) = fin p - t := by
  have hl := cutP_len p n t
  rcases Nat.lt_or_ge n p.length with hn | hn
  · rw [fin_last (by rw [hl]; omega), hl, (cut_bgn (p.length - n - 1) (by omega)).2, fin_last (by omega), show n + (p.length - n - 1) = p.length - 1 by omega]
  · have hnil : cutP p n t = [] := List.length_eq_zero_iff.1 (by rw [hl]; omega)
    have h1 := h.t1; have h0 := h.t0
    rw [hnil, fin_nil]
    rcases Nat.eq_zero_or_pos p.length with h2 | h2
    · have : p = [] := List.length_eq_zero_iff.1 h2
      rw [this, fin_nil] at h1 ⊢; omega
    · have h3 := h.fst (p.length - 1) (by omega)
      rw [fin_last h2] at h1 ⊢; omega
theorem cut_finA {l : List Tk} {p : List Prt} {n : Nat} {t : Int} (h : CutH l p n t) : 0 ≤ fin (p.take n) ∧ fin (p.take n) ≤ t := by
  have hn := h.le
  rcases Nat.eq_zero_or_pos n with h0 | h0
  · subst h0; rw [List.take_zero, fin_nil]; exact ⟨Int.le_refl _, h.t0⟩
  · have e := fin_take (p := p) (i := n - 1) (by omega)
    rw [show n - 1 + 1 = n by omega] at e
    rw [e]
    refine ⟨?_, h.fst _ (by omega)⟩
    have h1 := bgn_mono h.ok (n - 1) (by omega)
    have h2 := lng_pos (h.ok.each (n - 1) (by omega))
    unfold en; omega
theorem cut_okA {l : List Tk} {p : List Prt} {n : Nat} {t : Int} (h : CutH l p n t) : ProgOk l (p.take n) := by
  have hn := h.le
  have hl : (p.take n).length = n := by rw [List.length_take]; omega
  have hm := h.ok.most
  refine ⟨h.ok.tks, by omega, fun i hi => ?_, fun i hi => ?_, ?_⟩
  · rw [hl] at hi; rw [pt_take hi]; exact h.ok.each i (by omega)
  · rw [hl] at hi
    have := h.ok.pos i (by omega)
    unfold posOk at this ⊢
    rw [bgn_take hi, en_take hi]
    refine ⟨this.1, fun h0 => ?_, fun h0 => ?_⟩
    · rw [bgn_take (by omega), en_take (by omega)]; exact this.2.1 h0
    · rw [en_take (by omega)]; exact this.2.2 h0
  · have h1 := cut_finA h; have h2 := h.t1; have h3 := h.ok.fin; omega
theorem cut_okB {l : List Tk} {p : List Prt} {n : Nat} {t : Int} (h : CutH l p n t) : ProgOk l (cutP p n t) := by
  have hl := cutP_len p n t
  have hm := h.ok.most
  have hf := h.ok.fin
  have h0 := h.t0
  refine ⟨h.ok.tks, by omega, fun i hi => ?_, fun i hi => ?_, by rw [cut_fin h]; omega⟩
  · rw [hl] at hi
    rw [cutP_get (by omega)]
    split
    · rename_i e
      have h1 := h.ok.each n (by omega)
      have h2 := h.snd n (Nat.le_refl _) (by omega)
      have h3 := en_fin h.ok (i := n) (by omega)
      have h4 := lng_pos h1
      have h5 : en p n = bgn p n + lng (pt p n) := rfl
      exact ⟨h1.tk0, h1.tk1, h1.fr0, h1.frto, h1.to1, by unfold gapd; dsimp only; omega, h1.inn, h1.out, h1.lev⟩
    · exact h.ok.each _ (by omega)
  · rw [hl] at hi
    have hb := fun k (hk : k < p.length - n) => cut_bgn (t := t) (p := p) (n := n) k (by omega)
    have := h.ok.pos (n + i) (by omega)
    unfold posOk at this ⊢
    have e0 := hb i hi
    refine ⟨fun hz => ?_, fun hz => ?_, fun hz => ?_⟩
    · subst hz; rw [e0.1]; have := h.snd n (Nat.le_refl _) (by omega); simp only [Nat.add_zero]; omega
    · have e1 := hb (i - 1) (by omega)
      have := this.2.1 (by omega)
      rw [show n + i - 1 = n + (i - 1) by omega] at this
      rw [e0.1, e0.2, e1.1, e1.2]; omega
    · have e1 := hb (i - 2) (by omega)
      have := this.2.2 (by omega)
      rw [show n + i - 2 = n + (i - 2) by omega] at this
      rw [e0.1, e1.2]; omega
theorem mixN_skip {p : List Prt} {v : Nat → Int → Sam} {t : Int} {n : Nat} : ∀ m, (∀ i, n ≤ i → i < n + m → ¬ (bgn p i ≤ t ∧ t < en p i)) → mixN p v (n + m) t = mixN p v n t := by
  intro m
  induction m with
  | zero => intro _; rfl
  | succ m ih =>
    intro h
    rw [show n + (m + 1) = n + m + 1 by omega, mixN, if_neg (h (n + m) (by omega) (by omega))]
    exact ih fun i h1 h2 => h i h1 (by omega)
theorem mixN_none {p : List Prt} {v : Nat → Int → Sam} {t : Int} : ∀ n, (∀ i, i < n → ¬ (bgn p i ≤ t ∧ t < en p i)) → mixN p v n t = ⟨0, 0⟩ := by
  intro n h
  have := mixN_skip (p := p) (v := v) (t := t) (n := 0) n (fun i _ hi => h i (by omega))
  rw [Nat.zero_add] at this
  rw [this]; rfl
section
variable {l : List Tk} {p : List Prt} {n : Nat} {t : Int} {v va vb : Nat → Int → Sam}
theorem mixA (h : CutH l p n t) (hva : ∀ i k, i < n → va i k = v i k) (s : Int) : ∀ m, m ≤ n → mixN (p.take n) va m s = mixN p v m s := by
  intro m
  induction m with
  | zero => intro _; rfl
  | succ m ih => intro hm; unfold mixN; rw [bgn_take (by omega), en_take (by omega), ih (by omega), hva m _ (by omega)]
theorem mixB (h : CutH l p n t) (hvb : ∀ k s, n + k < p.length → vb k s = v (n + k) s) {s : Int} (hs : t ≤ s) : ∀ m, n + m ≤ p.length → mixN p v (n + m) s = mixN (cutP p n t) vb m (s - t) := by
  intro m
  induction m with
  | zero =>
    intro _
    rw [Nat.add_zero, mixN_none n (fun i hi => by have := h.fst i hi; omega)]
    rfl
  | succ m ih =>
    intro hm
    have hb := cut_bgn (t := t) (p := p) (n := n) m (by omega)
    rw [show n + (m + 1) = n + m + 1 by omega, mixN, mixN, ih (by omega), hb.1, hb.2, hvb m _ (by omega)]
    by_cases hc : bgn p (n + m) ≤ s ∧ s < en p (n + m)
    · rw [if_pos hc, if_pos (by omega), show s - t - (bgn p (n + m) - t) = s - bgn p (n + m) by omega]
    · rw [if_neg hc, if_neg (by omega)]
/-- the whole is the one, the silence between, and the other -/
theorem cut_mix (h : CutH l p n t) (hva : ∀ i k, i < n → va i k = v i k) (hvb : ∀ k s, n + k < p.length → vb k s = v (n + k) s) :
    mix p v = mix (p.take n) va ++ List.replicate (t - fin (p.take n)).toNat ⟨0, 0⟩ ++ mix (cutP p n t) vb := by
  have hn := h.le
  have ha := cut_finA h
  have hb := cut_fin h
  have h1 := h.t1; have h0 := h.t0
  have hla : (p.take n).length = n := by rw [List.length_take]; omega
  have hlb := cutP_len p n t
  have hA := cut_okA h
  apply List.ext_getElem
  · simp only [List.length_append, mix_len, List.length_replicate]; omega
  · intro i q1 q2
    have q1' : i < (fin p).toNat := by rw [mix_len] at q1; exact q1
    have e1 := mix_get (v := v) q1'
    rw [List.getD, List.getElem?_eq_getElem q1, Option.getD_some] at e1
    rw [e1]
    by_cases c1 : (i : Int) < fin (p.take n)
    · have e2 := mix_get (p := p.take n) (v := va) (t := i) (by omega)
      rw [List.getElem_append_left (by simp [mix_len]; omega), List.getElem_append_left (by rw [mix_len]; omega)]
      rw [List.getD, List.getElem?_eq_getElem (by rw [mix_len]; omega), Option.getD_some] at e2
      rw [e2, hla, mixA h hva _ n (Nat.le_refl _)]
      have := mixN_skip (p := p) (v := v) (t := (i : Int)) (n := n) (p.length - n) (fun j j1 j2 => by have := h.snd j j1 (by omega); omega)
      rw [show n + (p.length - n) = p.length by omega] at this
      exact this
    · by_cases c2 : (i : Int) < t
      · rw [List.getElem_append_left (by simp [mix_len]; omega), List.getElem_append_right (by rw [mix_len]; omega), List.getElem_replicate]
        refine mixN_none _ fun j hj => ?_
        rcases Nat.lt_or_ge j n with hjn | hjn
        · have e3 := en_fin hA (i := j) (by omega)
          rw [en_take hjn] at e3; omega
        · have := h.snd j hjn hj; omega
      · have e2 := mix_get (p := cutP p n t) (v := vb) (t := i - t.toNat) (by omega)
        rw [List.getElem_append_right (by simp [mix_len]; omega)]
        rw [List.getD, List.getElem?_eq_getElem (by rw [mix_len]; omega), Option.getD_some] at e2
        simp only [List.length_append, mix_len, List.length_replicate, show (fin (p.take n)).toNat + (t - fin (p.take n)).toNat = t.toNat by omega]
        rw [e2, hlb]
        have := mixB h hvb (s := (i : Int)) (by omega) (p.length - n) (by omega)
        rw [show n + (p.length - n) = p.length by omega] at this
        rw [this]; congr 1; omega
end
theorem sErr_app {a b : List Sam} (h : a.length + b.length ≤ 4096) : sErr (a ++ b) = 0 ↔ sErr a = 0 ∧ sErr b = 0 := by
  rw [sErr_zero, sErr_zero, sErr_zero, List.all_append, Bool.and_eq_true, List.length_append]
  constructor
  · rintro ⟨_, h1, h2⟩; exact ⟨⟨by omega, h1⟩, by omega, h2⟩
  · rintro ⟨⟨_, h1⟩, _, h2⟩; exact ⟨by omega, h1, h2⟩
theorem sErr_zeros (n : Nat) (h : n ≤ 4096) : sErr (List.replicate n ⟨0, 0⟩) = 0 := by
  refine sErr_zero.2 ⟨by simpa using h, ?_⟩
  rw [List.all_eq_true]; intro x hx
  rw [(List.mem_replicate.1 hx).2]; rfl
theorem cut_err {l : List Tk} {p : List Prt} {n : Nat} {t : Int} {v va vb : Nat → Int → Sam} (h : CutH l p n t) (hva : ∀ i k, i < n → va i k = v i k) (hvb : ∀ k s, n + k < p.length → vb k s = v (n + k) s) :
    sErr (mix p v) = 0 ↔ sErr (mix (p.take n) va) = 0 ∧ sErr (mix (cutP p n t) vb) = 0 := by
  have e := cut_mix h hva hvb
  have ha := cut_finA h; have hb := cut_fin h; have h1 := h.t1; have h0 := h.t0; have hf := h.ok.fin
  rw [e, sErr_app (by simp only [List.length_append, mix_len, List.length_replicate]; omega), sErr_app (by simp only [mix_len, List.length_replicate]; omega)]
  constructor
  · rintro ⟨⟨h1, _⟩, h2⟩; exact ⟨h1, h2⟩
  · rintro ⟨h1, h2⟩; exact ⟨⟨h1, sErr_zeros _ (by omega)⟩, h2⟩
theorem snd_gap (l : List Tk) (x : Prt) (g k lev : Int) : snd l (gapd x g) k lev = snd l x k lev := rfl
theorem vR_cutA {l : List Tk} {p : List Prt} {n : Nat} : ∀ i k, i < n → vR l (p.take n) i k = vR l p i k := by
  intro i k hi; unfold vR; rw [pt_take hi]
theorem vR_cutB {l : List Tk} {p : List Prt} {n : Nat} {t : Int} : ∀ k s, n + k < p.length → vR l (cutP p n t) k s = vR l p (n + k) s := by
  intro k s hk; unfold vR; rw [cutP_get hk]; split
  · rename_i h; subst h; rfl
  · rfl
theorem vH_cutA {l : List Tk} {p : List Prt} {n : Nat} {f : Int} : ∀ i k, i < n → vH l (p.take n) f i k = vH l p f i k := by
  intro i k hi; unfold vH; rw [pt_take hi]
theorem vH_cutB {l : List Tk} {p : List Prt} {n : Nat} {t f : Int} : ∀ k s, n + k < p.length → vH l (cutP p n t) f k s = vH l p f (n + k) s := by
  intro k s hk; unfold vH; rw [cutP_get hk]; split
  · rename_i h; subst h; rfl
  · rfl
/-- a split is such a cut -/
theorem sp_cut {l : List Tk} {p : List Prt} {t : Int} (h : spE l p t = 0) : CutH l p (spN p t) t := by
  obtain ⟨hg, ⟨h0, h1⟩, hm⟩ := spE_zero h
  have hP := gErr_zero.1 hg
  refine ⟨hP, spN_le p t, h0, h1, fun i hi => ?_, fun i hi hl => ?_⟩
  · exact (cnt_iff hP t p.length (Nat.le_refl _) i (by have := spN_le p t; omega)).1 hi
  · have h2 : ¬ en p i ≤ t := fun e => by have := (cnt_iff hP t p.length (Nat.le_refl _) i hl).2 e; unfold spN at hi; omega
    have h3 := midB_not hm hl
    omega
end Go.Proofs.YtnklkobhjdkblaaDoor
