/- How often each part has sounded, in plain Lean. -/
import Derived.Test.YtnklkobhjdkblaaDoorTaI
namespace Go.Proofs.YtnklkobhjdkblaaDoor
open Go.Sx

def mny (p : List Prt) (t : Int) (i : Nat) : Int := if t ≤ bgn p i then 0 else min (t - bgn p i) (lng (pt p i))
theorem mny_in {p : List Prt} {t : Int} {i : Nat} (h : bgn p i ≤ t ∧ t < en p i) : mny p t i = t - bgn p i ∧ mny p (t + 1) i = t - bgn p i + 1 := by
  unfold en at h; unfold mny
  constructor
  · split <;> omega
  · rw [if_neg (by omega)]; omega
theorem mny_out {l : List Tk} {p : List Prt} {t : Int} {i : Nat} (hx : PrtOk l (pt p i)) (h : ¬ (bgn p i ≤ t ∧ t < en p i)) : mny p (t + 1) i = mny p t i := by
  have := lng_pos hx
  unfold en at h; unfold mny
  split <;> split <;> omega
def manyL (p : List Prt) (t : Int) (js : List Nat) : List Int := (List.range p.length).map fun i => mny p t i + (if i ∈ js then 1 else 0)
theorem many_len (p : List Prt) (t : Int) (js : List Nat) : (manyL p t js).length = p.length := by simp [manyL]
theorem many_get {p : List Prt} {t : Int} {js : List Nat} {i : Nat} (hi : i < p.length) : (manyL p t js).getD i default = mny p t i + (if i ∈ js then 1 else 0) := by simp [manyL, List.getD, hi]
theorem many_set {p : List Prt} {t : Int} {js : List Nat} {i : Nat} (hi : i < p.length) (hn : i ∉ js) {z : Int} (hz : z = mny p t i + 1) : (manyL p t js).set i z = manyL p t (js ++ [i]) := by
  apply List.ext_getElem (by simp [manyL])
  intro q h1 h2
  rw [List.getElem_set]
  simp only [manyL, List.getElem_map, List.getElem_range, List.mem_append, List.mem_singleton]
  by_cases e : i = q
  · subst e; rw [if_pos rfl, hz, if_pos (.inr rfl)]
  · rw [if_neg e]
    by_cases hq : q ∈ js
    · rw [if_pos hq, if_pos (.inl hq)]
    · rw [if_neg hq, if_neg (by rintro (h | h); exact hq h; exact e h.symm)]
theorem sndI_in {p : List Prt} {t : Int} {n i : Nat} (hi : i < n) (h : bgn p i ≤ t ∧ t < en p i) : i ∈ sndI p t n := by
  unfold sndI; rw [List.mem_filter, List.mem_range, decide_eq_true_iff]; exact ⟨hi, h⟩
theorem many_next {l : List Tk} {p : List Prt} (hP : ProgOk l p) (t : Int) : manyL p t (sndI p t p.length) = manyL p (t + 1) [] := by
  unfold manyL
  apply List.map_congr_left
  intro i hi
  rw [List.mem_range] at hi
  by_cases hc : bgn p i ≤ t ∧ t < en p i
  · rw [if_pos (sndI_in hi hc), if_neg (by simp), (mny_in hc).1, (mny_in hc).2, Int.add_zero]
  · rw [if_neg (fun h => hc (sndI_mem h).2), if_neg (by simp), mny_out (hP.each i hi) hc]
theorem many_zero {l : List Tk} {p : List Prt} (hP : ProgOk l p) : manyL p 0 [] = List.replicate p.length 0 := by
  unfold manyL
  rw [List.eq_replicate_iff]
  refine ⟨by simp, fun b hb => ?_⟩
  obtain ⟨i, hi, rfl⟩ := List.mem_map.1 hb
  rw [List.mem_range] at hi
  have := bgn_mono hP i hi
  unfold mny
  rw [if_pos this, if_neg (by simp)]; rfl
theorem many_fin {l : List Tk} {p : List Prt} (hP : ProgOk l p) {i : Nat} (hi : i < p.length) : (manyL p (fin p) []).getD i default = lng (pt p i) := by
  rw [many_get hi]
  have h1 := en_fin hP hi
  have h2 := lng_pos (hP.each i hi)
  unfold en at h1
  unfold mny
  rw [if_neg (by omega), if_neg (by simp)]; omega
theorem sndI_lt {p : List Prt} {t : Int} {n a b : Nat} (hab : a < b) (hb : b < (sndI p t n).length) : (sndI p t n).getD a default < (sndI p t n).getD b default := by
  have h : (sndI p t n).Pairwise (· < ·) := List.Pairwise.filter _ List.pairwise_lt_range
  have := List.pairwise_iff_getElem.1 h a b (by omega) hb hab
  simpa [List.getD, hb, show a < (sndI p t n).length by omega] using this
theorem sndI_two {l : List Tk} {p : List Prt} (hP : ProgOk l p) (t : Int) : (sndI p t p.length).length ≤ 2 := by
  rcases Nat.lt_or_ge 2 (sndI p t p.length).length with h | h
  · exfalso
    have h1 := sndI_lt (p := p) (t := t) (n := p.length) (a := 0) (b := 1) (by omega) (by omega)
    have h2 := sndI_lt (p := p) (t := t) (n := p.length) (a := 1) (b := 2) (by omega) (by omega)
    have m0 := sndI_mem (getD_mem (l := sndI p t p.length) (i := 0) (by omega))
    have m2 := sndI_mem (getD_mem (l := sndI p t p.length) (i := 2) (by omega))
    generalize (sndI p t p.length).getD 0 default = a at *
    generalize (sndI p t p.length).getD 1 default = b at *
    generalize (sndI p t p.length).getD 2 default = k at *
    have h3 := (hP.pos k m2.1).2.2 (by omega)
    have h4 := en_mono hP a (k - 2) (by omega) (by omega)
    omega
  · exact h
theorem sndI_notin {p : List Prt} {t : Int} {n j : Nat} (hj : j < (sndI p t n).length) : (sndI p t n).getD j default ∉ (sndI p t n).take j := by
  intro h
  obtain ⟨a, ha, e⟩ := List.getElem_of_mem h
  rw [List.length_take] at ha
  rw [List.getElem_take] at e
  have := sndI_lt (p := p) (t := t) (n := n) (a := a) (b := j) (by omega) hj
  rw [← e] at this
  simp [List.getD, show a < (sndI p t n).length by omega] at this
theorem loud_err {l : List Tk} {p : List Prt} (hP : ProgOk l p) : rErr l p = 4 ↔ ∃ s : Nat, s < (fin p).toNat ∧ (mixN p (vR l p) p.length s).ok = false := by
  have hf := hP.fin
  have hn := fin_nonneg hP
  rw [rErr, if_pos (gErr_zero.2 hP)]
  constructor
  · intro h
    split at h
    · cases h
    · rename_i hs
      rcases Classical.em (∃ s : Nat, s < (fin p).toNat ∧ (mixN p (vR l p) p.length s).ok = false) with he | he
      · exact he
      · exfalso; apply hs
        refine sErr_zero.2 ⟨by rw [rend, mix_len]; omega, all_getD.2 fun t ht => ?_⟩
        rw [rend, mix_len] at ht
        rw [rend, mix_get ht]
        cases hq : (mixN p (vR l p) p.length t).ok with
        | true => rfl
        | false => exact absurd ⟨t, ht, hq⟩ he
  · rintro ⟨s, hs, hq⟩
    rw [if_neg]
    intro h0
    have := all_getD.1 (sErr_zero.1 h0).2 s (by rw [rend, mix_len]; exact hs)
    rw [rend, mix_get hs, hq] at this
    cases this
end Go.Proofs.YtnklkobhjdkblaaDoor
