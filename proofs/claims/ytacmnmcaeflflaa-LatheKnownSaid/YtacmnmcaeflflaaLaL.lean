/- Milder rules, narrower grooves, moved blanks: what becomes of the outermost cut. -/
import Derived.Test.YtacmnmcaeflflaaLaK
namespace Go.Proofs.Ytacmnmcaeflflaa
open Go.Sx

/-- the rules of b' and l' are nowhere harder than those of b and l -/
structure Milder (b : Blank) (l : List Pt) (b' : Blank) (l' : List Pt) : Prop where
  len : l'.length = l.length
  per : b'.per = b.per
  slow : b'.slow ≤ b.slow
  fast : b.fast ≤ b'.fast
  land : b'.land ≤ b.land
  rim : b.rim ≤ b'.rim
  core : b'.core ≤ b.core
  pts : ∀ i, i < l.length → (l.getD i default).inn ≤ (l'.getD i default).inn ∧ (l'.getD i default).out ≤ (l.getD i default).out
theorem Milder.keepsE {b b' : Blank} {l l' : List Pt} (h : Milder b l b' l') (hb : b.ok = true) {r : Int → Int} (hk : KeepsE b l r) : KeepsE b' l' r := by
  rw [Blank.ok_iff] at hb
  rintro x ⟨rule, i, hr, hi, hf, rfl⟩
  have hi2 : In l.length i := h.len ▸ hi
  have hi3 := hi2
  unfold In at hi3
  rcases hr with rfl | rfl | rfl
  · have h1 := hk (edgeOf b l 3 i).1 ⟨3, i, .inl rfl, hi2, by rw [edgeOf_three hi2]; rw [edgeOf_three hi] at hf; exact hf, rfl⟩
    rw [edgeOf_three hi2] at h1; rw [edgeOf_three hi]
    have := h.slow; dsimp only at h1 ⊢; omega
  · have h1 := hk (edgeOf b l 4 i).1 ⟨4, i, .inr (.inl rfl), hi2, by rw [edgeOf_four hi2]; rw [edgeOf_four hi] at hf; exact hf, rfl⟩
    rw [edgeOf_four hi2] at h1; rw [edgeOf_four hi]
    have := h.fast; dsimp only at h1 ⊢; omega
  · rw [edgeOf_five hi] at hf ⊢
    split at hf
    · cases hf
    · rename_i hc
      rw [if_neg hc]
      rw [h.per] at hc ⊢
      have h1 := hk (edgeOf b l 5 i).1 ⟨5, i, .inr (.inr rfl), hi2, by rw [edgeOf_five hi2, if_neg hc], rfl⟩
      rw [edgeOf_five hi2, if_neg hc] at h1
      have h2 := h.pts i.toNat (by omega)
      have h3 := h.pts (i - b.per).toNat (by omega)
      have h4 := h.land
      dsimp only at h1 ⊢; omega
theorem Milder.keeps {b b' : Blank} {l l' : List Pt} (h : Milder b l b' l') (hb : b.ok = true) {r : Int → Int} (hk : Keeps b l r) : Keeps b' l' r := by
  refine ⟨h.keepsE hb hk.edges, fun i hi => ?_, fun i hi => ?_⟩
  · have hi2 : In l.length i := h.len ▸ hi
    have h1 := hk.rim i hi2
    unfold In at hi2
    have h2 := h.pts i.toNat (by omega)
    have h3 := h.rim
    unfold r0 at h1 ⊢; omega
  · have h1 := hk.core i (h.len ▸ hi)
    have h2 := h.pts i (h.len ▸ hi)
    have h3 := h.core
    omega
theorem Milder.outer {b b' : Blank} {l l' : List Pt} (h : Milder b l b' l') (hb : b.ok = true) (hp : PtB l) (hb' : b'.ok = true) (hp' : PtB l') {r : List Int} (ho : outer b l = some r) :
    ∃ r', outer b' l' = some r' ∧ r.length = l.length ∧ r'.length = l.length ∧ ∀ i, i < l.length → r.getD i default ≤ r'.getD i default := by
  rcases outer_top hb hp with ⟨r1, h1, h2⟩ | ⟨h1, _⟩
  · rw [h1] at ho; cases ho
    obtain ⟨r', h3, h4⟩ := outer_of_keeps hb' hp' (h.keeps hb h2.keeps)
    refine ⟨r', h3, h2.len, h4.len.trans h.len, fun i hi => ?_⟩
    have := h4.most _ (h.keeps hb h2.keeps) i (by rw [h.len]; exact ⟨by omega, by omega⟩)
    rwa [val_nat, val_nat] at this
  · rw [h1] at ho; cases ho
theorem Milder.out {b b' : Blank} {l l' : List Pt} (h : Milder b l b' l') (he : both b l = 0) (he' : both b' l' = 0) (ho : outE b l = 0) :
    outE b' l' = 0 ∧ (outR b l).length = l.length ∧ (outR b' l').length = l.length ∧ ∀ i, i < l.length → (outR b l).getD i default ≤ (outR b' l').getD i default := by
  obtain ⟨hb, hl, hpt⟩ := both_zero.1 he
  obtain ⟨hb', hl', hpt'⟩ := both_zero.1 he'
  obtain ⟨r', h1, h2, h3, h4⟩ := h.outer hb (ptB_of hpt) hb' (ptB_of hpt') (outE_eq he ho)
  obtain ⟨e1, e2⟩ := outE_of he' h1
  exact ⟨e1, h2, by rw [e2]; exact h3, by rw [e2]; exact h4⟩

/-- l' is l, narrower -/
structure Narrower (l l' : List Pt) : Prop where
  len : l'.length = l.length
  pts : ∀ i, i < l.length → ((l.getD i default).inn ≤ (l'.getD i default).inn ∧ (l'.getD i default).inn ≤ 4194304) ∧ (l'.getD i default).out ≤ (l.getD i default).out ∧ -4194304 ≤ (l'.getD i default).out
theorem Narrower.refl {l : List Pt} (hp : PtB l) : Narrower l l := ⟨rfl, fun i hi => by have := hp i hi; omega⟩
theorem Narrower.set {l l' : List Pt} (h : Narrower l l') {i : Nat} {y : Pt} (hi : i < l.length) (h1 : (l'.getD i default).inn ≤ y.inn ∧ y.inn ≤ 4194304) (h2 : y.out ≤ (l'.getD i default).out ∧ -4194304 ≤ y.out) : Narrower l (l'.set i y) := by
  have hl := h.len
  refine ⟨by simpa using hl, fun q hq => ?_⟩
  have h3 := h.pts q hq
  rw [getD_set (by omega)]
  split
  · rename_i e; subst e; omega
  · exact h3
theorem Narrower.both {b : Blank} {l l' : List Pt} (h : Narrower l l') (he : both b l = 0) : both b l' = 0 ∧ Milder b l b l' := by
  obtain ⟨hb, hl, hpt⟩ := both_zero.1 he
  have hp := ptB_of hpt
  refine ⟨both_zero.2 ⟨hb, by rw [h.len]; exact hl, ?_⟩, ⟨h.len, rfl, Int.le_refl _, Int.le_refl _, Int.le_refl _, Int.le_refl _, Int.le_refl _, fun i hi => by have := h.pts i hi; omega⟩⟩
  rw [List.all_eq_true]
  intro x hx
  obtain ⟨i, hi, rfl⟩ := List.getElem_of_mem hx
  have hl' := h.len
  have h1 := h.pts i (by omega)
  have h2 := hp i (by omega)
  unfold ptOk
  rw [Bool.and_eq_true, betw_iff, betw_iff]
  simp only [List.getD, List.getElem?_eq_getElem hi, Option.getD_some] at h1
  have e : (l[i]?.getD default) = (l.getD i default) := rfl
  rw [e] at h1
  omega
end Go.Proofs.Ytacmnmcaeflflaa
