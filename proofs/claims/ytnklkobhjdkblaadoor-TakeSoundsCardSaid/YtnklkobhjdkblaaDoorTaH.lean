/- The document's programme, time by time, in plain Lean. -/
import Derived.Test.YtnklkobhjdkblaaDoorTaG
namespace Go.Proofs.YtnklkobhjdkblaaDoor
open Go.Sx

def vG (l : List Tk) (p : List Prt) (f : Int) (am : Bool) (i : Nat) (k : Int) : Sam := if am = true then vH l p f i k else snd l (pt p i) k (((pt p i).lev * f).tdiv 1000)
theorem vG_true (l : List Tk) (p : List Prt) (f : Int) : vG l p f true = vH l p f := rfl
theorem vG_false (l : List Tk) (p : List Prt) : vG l p 1000 false = vR l p := by
  funext i k
  show snd l (pt p i) k (((pt p i).lev * 1000).tdiv 1000) = _
  rw [Int.mul_tdiv_cancel _ (by decide)]; rfl
theorem vG_bd {l : List Tk} {p : List Prt} (hP : ProgOk l p) {f : Int} {am : Bool} (h0 : 0 ≤ f) (h1 : f ≤ 4000) : ∀ i k, i < p.length → 0 ≤ k → k < lng (pt p i) → (vG l p f am i k).bd 1000000 := by
  intro i k hi hk0 hk
  have := vH_bd hP h0 h1 i k hi hk0 hk
  unfold vG; split
  · exact this.1
  · exact this.2
def sndI (p : List Prt) (t : Int) (n : Nat) : List Nat := (List.range n).filter fun i => decide (bgn p i ≤ t ∧ t < en p i)
theorem sndI_yes {p : List Prt} {t : Int} {n : Nat} (h : bgn p n ≤ t ∧ t < en p n) : sndI p t (n + 1) = sndI p t n ++ [n] := by
  unfold sndI; rw [List.range_succ, List.filter_append, List.filter_cons_of_pos (by simpa using h)]; rfl
theorem sndI_no {p : List Prt} {t : Int} {n : Nat} (h : ¬ (bgn p n ≤ t ∧ t < en p n)) : sndI p t (n + 1) = sndI p t n := by
  unfold sndI; rw [List.range_succ, List.filter_append, List.filter_cons_of_neg (by simpa using h), List.filter_nil, List.append_nil]
theorem sndI_len (p : List Prt) (t : Int) (n : Nat) : (sndI p t n).length ≤ n := by
  unfold sndI; have := List.length_filter_le (fun i => decide (bgn p i ≤ t ∧ t < en p i)) (List.range n); simpa using this
theorem sndI_mem {p : List Prt} {t : Int} {n i : Nat} (h : i ∈ sndI p t n) : i < n ∧ bgn p i ≤ t ∧ t < en p i := by
  unfold sndI at h
  rw [List.mem_filter, List.mem_range, decide_eq_true_iff] at h
  exact h
def sumI (p : List Prt) (v : Nat → Int → Sam) (t : Int) (is : List Nat) : Sam := is.foldl (fun a i => sad a (v i (t - bgn p i))) ⟨0, 0⟩
theorem sumI_snoc (p : List Prt) (v : Nat → Int → Sam) (t : Int) (is : List Nat) (i : Nat) : sumI p v t (is ++ [i]) = sad (sumI p v t is) (v i (t - bgn p i)) := by unfold sumI; rw [List.foldl_append]; rfl
theorem mixN_sum (p : List Prt) (v : Nat → Int → Sam) (t : Int) : ∀ n, mixN p v n t = sumI p v t (sndI p t n) := by
  intro n
  induction n with
  | zero => rfl
  | succ n ih =>
    unfold mixN
    by_cases hc : bgn p n ≤ t ∧ t < en p n
    · rw [if_pos hc, sndI_yes hc, sumI_snoc, ih]
    · rw [if_neg hc, sndI_no hc, ih]
theorem sumI_bd {p : List Prt} {v : Nat → Int → Sam} {t : Int} {is : List Nat} (h : ∀ i ∈ is, (v i (t - bgn p i)).bd 1000000) : ∀ j, j ≤ is.length → (sumI p v t (is.take j)).bd (j * 1000000) := by
  intro j
  induction j with
  | zero => intro _; exact ⟨⟨by simp [sumI], by simp [sumI]⟩, ⟨by simp [sumI], by simp [sumI]⟩⟩
  | succ j ih =>
    intro hj
    have h1 := ih (by omega)
    have h2 := h (is.getD j default) (getD_mem (by omega))
    rw [take_snoc (by omega), sumI_snoc]
    unfold Sam.bd at h1 h2 ⊢
    simp only [sad]
    omega
def outL (p : List Prt) (v : Nat → Int → Sam) (t : Int) (z : Sam) : List Sam := (List.range (fin p).toNat).map fun (s : Nat) => if (s : Int) < t then mixN p v p.length s else if (s : Int) = t then z else ⟨0, 0⟩
section
variable {p : List Prt} {v : Nat → Int → Sam} {t : Nat} {z z' : Sam}
theorem outL_len (p : List Prt) (v : Nat → Int → Sam) (t : Int) (z : Sam) : (outL p v t z).length = (fin p).toNat := by simp [outL]
theorem outL_at (h : t < (fin p).toNat) : (outL p v t z).getD t default = z := by simp [outL, List.getD, h]
theorem outL_set (h : t < (fin p).toNat) : (outL p v t z).set t z' = outL p v t z' := by
  apply List.ext_getElem (by simp [outL])
  intro q h1 h2
  rw [List.getElem_set]
  simp only [outL, List.getElem_map, List.getElem_range]
  by_cases e : t = q
  · subst e; rw [if_pos rfl, if_neg (by omega), if_pos rfl]
  · rw [if_neg e]
    by_cases hc : (q : Int) < t
    · rw [if_pos hc, if_pos hc]
    · rw [if_neg hc, if_neg hc, if_neg (by omega), if_neg (by omega)]
theorem outL_next : outL p v t (mixN p v p.length t) = outL p v ((t : Int) + 1) ⟨0, 0⟩ := by
  unfold outL
  apply List.map_congr_left
  intro s _
  by_cases h1 : (s : Int) < t
  · rw [if_pos h1, if_pos (by omega)]
  · rw [if_neg h1]
    by_cases h2 : (s : Int) = t
    · rw [if_pos h2, if_pos (by omega), h2]
    · rw [if_neg h2, if_neg (by omega)]; split <;> rfl
theorem outL_zero : outL p v 0 ⟨0, 0⟩ = List.replicate (fin p).toNat ⟨0, 0⟩ := by
  unfold outL
  rw [List.eq_replicate_iff]
  refine ⟨by simp, fun b hb => ?_⟩
  obtain ⟨i, _, rfl⟩ := List.mem_map.1 hb
  rw [if_neg (by omega)]; split <;> rfl
theorem outL_end : outL p v (((fin p).toNat : Nat) : Int) ⟨0, 0⟩ = mix p v := by
  unfold outL mix
  apply List.map_congr_left
  intro s hs
  rw [List.mem_range] at hs
  rw [if_pos (by omega)]
end
end Go.Proofs.YtnklkobhjdkblaaDoor
