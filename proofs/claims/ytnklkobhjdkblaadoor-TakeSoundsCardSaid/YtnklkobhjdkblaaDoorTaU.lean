/- What silences are: plain. -/
import Derived.Test.YtnklkobhjdkblaaDoorTaT
namespace Go.Proofs.YtnklkobhjdkblaaDoor
open Go.Sx

/-- intervals of the first n samples that are apart, and hold the quiet ones -/
structure SilOk (s : List Sam) (a : Int) (n : Nat) (out : List Iv) : Prop where
  each : ∀ j, j < out.length → 0 ≤ (out.getD j default).1 ∧ (out.getD j default).1 < (out.getD j default).2 ∧ (out.getD j default).2 ≤ n
  apart : ∀ i j, i < j → j < out.length → (out.getD i default).2 < (out.getD j default).1
  held : ∀ j i, j < out.length → (out.getD j default).1 ≤ (i : Nat) → (i : Int) < (out.getD j default).2 → quiet a (s.getD i default) = true
structure SilN (s : List Sam) (a : Int) (n : Nat) (out : List Iv) (fr : Nat) : Prop where
  ok : SilOk s a n out
  le : fr ≤ n
  last : ∀ j, j < out.length → (out.getD j default).2 < fr
  tail : ∀ i, fr ≤ i → i < n → quiet a (s.getD i default) = true
  all : ∀ i, i < fr → quiet a (s.getD i default) = true → ∃ j, j < out.length ∧ (out.getD j default).1 ≤ i ∧ (i : Int) < (out.getD j default).2
theorem getD_app1 {α : Type} [Inhabited α] {l : List α} {x : α} {j : Nat} (h : j < l.length) : (l ++ [x]).getD j default = l.getD j default := by
  simp [List.getD, List.getElem?_append_left h]
theorem getD_app2 {α : Type} [Inhabited α] {l : List α} {x : α} : (l ++ [x]).getD l.length default = x := by simp [List.getD]
theorem SilN.addN {s : List Sam} {a : Int} {n : Nat} {out : List Iv} {fr : Nat} (h : SilN s a n out fr) : SilOk s a n (addIv 1 out fr n) ∧ (∀ j, j < (addIv 1 out fr n).length → ((addIv 1 out fr n).getD j default).2 ≤ n) ∧ ∀ i, i < n → quiet a (s.getD i default) = true → ∃ j, j < (addIv 1 out fr n).length ∧ ((addIv 1 out fr n).getD j default).1 ≤ i ∧ (i : Int) < ((addIv 1 out fr n).getD j default).2 := by
  have hle := h.le
  unfold addIv
  split
  · rename_i hp
    have hlen : (out ++ [((fr : Int), (n : Int))]).length = out.length + 1 := by simp
    rw [hlen]
    have key : ∀ j, j < out.length + 1 → (j < out.length ∧ (out ++ [((fr : Int), (n : Int))]).getD j default = out.getD j default) ∨ (j = out.length ∧ (out ++ [((fr : Int), (n : Int))]).getD j default = ((fr : Int), (n : Int))) := by
      intro j hj
      by_cases hlt : j < out.length
      · exact .inl ⟨hlt, getD_app1 hlt⟩
      · obtain rfl : j = out.length := by omega
        exact .inr ⟨rfl, getD_app2⟩
    refine ⟨⟨?_, ?_, ?_⟩, ?_, ?_⟩
    · intro j hj
      rw [hlen] at hj
      rcases key j hj with ⟨hl, e⟩ | ⟨rfl, e⟩ <;> rw [e]
      · exact h.ok.each j hl
      · dsimp only; omega
    · intro i j hij hj
      rw [hlen] at hj
      rcases key j hj with ⟨hl, e⟩ | ⟨rfl, e⟩
      · rw [e, getD_app1 (by omega)]; exact h.ok.apart i j hij hl
      · rw [e, getD_app1 hij]; have := h.last i hij; dsimp only; omega
    · intro j i hj h1 h2
      rw [hlen] at hj
      rcases key j hj with ⟨hl, e⟩ | ⟨rfl, e⟩ <;> rw [e] at h1 h2
      · exact h.ok.held j i hl h1 h2
      · dsimp only at h1 h2; exact h.tail i (by omega) (by omega)
    · intro j hj
      rcases key j hj with ⟨hl, e⟩ | ⟨rfl, e⟩ <;> rw [e]
      · exact (h.ok.each j hl).2.2
      · exact Int.le_refl _
    · intro i hi hq
      by_cases hf : i < fr
      · obtain ⟨j, hj, h1, h2⟩ := h.all i hf hq
        exact ⟨j, by omega, by rw [getD_app1 hj]; exact h1, by rw [getD_app1 hj]; exact h2⟩
      · exact ⟨out.length, by omega, by rw [getD_app2]; dsimp only; omega, by rw [getD_app2]; dsimp only; omega⟩
  · rename_i hp
    obtain rfl : fr = n := by omega
    exact ⟨h.ok, fun j hj => by have := h.last j hj; omega, h.all⟩
theorem silN_ok (s : List Sam) (a : Int) : ∀ n, n ≤ s.length → SilN s a n (silN s a 1 n).1 (silN s a 1 n).2 := by
  intro n
  induction n with
  | zero => intro _; exact ⟨⟨(fun j hj => by cases hj), (fun i j _ hj => by cases hj), (fun j i hj => by cases hj)⟩, Nat.le_refl _, (fun j hj => by cases hj), (fun i _ hi => absurd hi (Nat.not_lt_zero _)), (fun i hi => absurd hi (Nat.not_lt_zero _))⟩
  | succ n ih =>
    intro hn
    have h := ih (by omega)
    cases hq : quiet a (s.getD n default) with
    | true =>
      rw [silN_q hq]
      refine ⟨⟨fun j hj => ?_, h.ok.apart, h.ok.held⟩, by have := h.le; omega, h.last, fun i h1 h2 => ?_, h.all⟩
      · have := h.ok.each j hj; omega
      · by_cases e : i = n
        · rw [e]; exact hq
        · exact h.tail i h1 (by omega)
    | false =>
      rw [silN_l hq]
      obtain ⟨h1, h2, h3⟩ := h.addN
      refine ⟨⟨fun j hj => ?_, h1.apart, h1.held⟩, Nat.le_refl _, fun j hj => ?_, fun i hi1 hi2 => ?_, fun i hi hqi => ?_⟩
      · have := h1.each j hj; dsimp only at this ⊢; omega
      · have := h2 j hj; dsimp only at this ⊢; omega
      · dsimp only at hi1; omega
      · by_cases e : i = n
        · rw [e, hq] at hqi; cases hqi
        · dsimp only at hi; exact h3 i (by omega) hqi
theorem sil_ok (s : List Sam) (a : Int) : SilOk s a s.length (sil s a 1) := (silN_ok s a s.length (Nat.le_refl _)).addN.1
theorem sil_all (s : List Sam) (a : Int) {i : Nat} (hi : i < s.length) (hq : quiet a (s.getD i default) = true) : ∃ j, j < (sil s a 1).length ∧ ((sil s a 1).getD j default).1 ≤ i ∧ (i : Int) < ((sil s a 1).getD j default).2 := (silN_ok s a s.length (Nat.le_refl _)).addN.2.2 i hi hq
/-- with a greater limit each lies in a silence -/
theorem sil_in {s : List Sam} {a b : Int} (hab : a ≤ b) {j : Nat} (hj : j < (sil s a 1).length) : ∃ k, k < (sil s b 1).length ∧ ((sil s b 1).getD k default).1 ≤ ((sil s a 1).getD j default).1 ∧ ((sil s a 1).getD j default).2 ≤ ((sil s b 1).getD k default).2 := by
  have hx := sil_ok s a
  have hy := sil_ok s b
  obtain ⟨e1, e2, e3⟩ := hx.each j hj
  have up : ∀ i : Nat, ((sil s a 1).getD j default).1 ≤ i → (i : Int) < ((sil s a 1).getD j default).2 → quiet b (s.getD i default) = true := by
    intro i h1 h2
    have := quiet_iff.1 (hx.held j i hj h1 h2)
    exact quiet_iff.2 ⟨by omega, by omega⟩
  obtain ⟨p, hp⟩ : ∃ p : Nat, ((sil s a 1).getD j default).1 = p := ⟨((sil s a 1).getD j default).1.toNat, by omega⟩
  obtain ⟨k, hk, k1, k2⟩ := sil_all s b (i := p) (by omega) (up p (by omega) (by omega))
  refine ⟨k, hk, by omega, ?_⟩
  rcases Int.lt_or_le ((sil s b 1).getD k default).2 ((sil s a 1).getD j default).2 with hlt | hle
  · obtain ⟨q, hq⟩ : ∃ q : Nat, ((sil s b 1).getD k default).2 = q := ⟨((sil s b 1).getD k default).2.toNat, by omega⟩
    obtain ⟨k', hk', k3, k4⟩ := sil_all s b (i := q) (by omega) (up q (by omega) (by omega))
    rcases Nat.lt_trichotomy k k' with h | h | h
    · have := hy.apart k k' h hk'; omega
    · subst h; omega
    · have := hy.apart k' k h hk; omega
  · exact hle
/-- a greater least length leaves those that are long enough -/
theorem addIv_filter {n : Int} (hn : 1 ≤ n) (out : List Iv) (fr to : Int) : addIv n (out.filter fun u => decide (n ≤ u.2 - u.1)) fr to = (addIv 1 out fr to).filter fun u => decide (n ≤ u.2 - u.1) := by
  unfold addIv
  by_cases h : n ≤ to - fr
  · rw [if_pos h, if_pos (by omega), List.filter_append, List.filter_cons_of_pos (by simpa using h), List.filter_nil]
  · rw [if_neg h]
    split
    · rw [List.filter_append, List.filter_cons_of_neg (by simpa using h), List.filter_nil, List.append_nil]
    · rfl
theorem silN_filter (s : List Sam) (a : Int) {n : Int} (hn : 1 ≤ n) : ∀ m, (silN s a n m).1 = (silN s a 1 m).1.filter (fun u => decide (n ≤ u.2 - u.1)) ∧ (silN s a n m).2 = (silN s a 1 m).2 := by
  intro m
  induction m with
  | zero => exact ⟨rfl, rfl⟩
  | succ m ih =>
    cases hq : quiet a (s.getD m default) with
    | true => rw [silN_q hq, silN_q hq]; exact ih
    | false => rw [silN_l hq, silN_l hq]; dsimp only; rw [ih.1, ih.2, addIv_filter hn]; exact ⟨rfl, rfl⟩
theorem sil_filter (s : List Sam) (a : Int) {n : Int} (hn : 1 ≤ n) : sil s a n = (sil s a 1).filter fun u => decide (n ≤ u.2 - u.1) := by
  unfold sil
  have := silN_filter s a hn s.length
  rw [this.1, this.2, addIv_filter hn]
end Go.Proofs.YtnklkobhjdkblaaDoor
