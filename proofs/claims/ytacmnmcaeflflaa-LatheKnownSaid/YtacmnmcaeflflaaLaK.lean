/- Cuts that keep all rules; the outermost one. -/
import Derived.Test.YtacmnmcaeflflaaLaY
namespace Go.Proofs.Ytacmnmcaeflflaa
open Go.Sx

/-- r keeps all rules -/
structure Keeps (b : Blank) (l : List Pt) (r : Int → Int) : Prop where
  edges : KeepsE b l r
  rim : ∀ i, In l.length i → r i ≤ r0 b l i
  core : ∀ i : Nat, i < l.length → b.core ≤ r i + (l.getD i default).inn
theorem val_nat (r : List Int) (i : Nat) : val r (i : Int) = r.getD i default := by simp [val]

theorem isEdge_of {b : Blank} {l : List Pt} {rule : Int} {i : Nat} (hr : rule = 3 ∨ rule = 4 ∨ rule = 5) (hi : i < l.length) (h : (edgeOf b l rule i).2 = true) : IsEdge b l (edgeOf b l rule i).1 := ⟨rule, i, hr, ⟨by omega, by omega⟩, h, rfl⟩
theorem at'_val {r : List Int} {n : Nat} {i : Int} (h : In n i) : at' r i = val r i := by
  unfold In at h; unfold at' val; rw [if_neg (by omega)]
/-- the rules between samples, at one sample -/
theorem kept_edge {b : Blank} {l : List Pt} {r : List Int} {i : Nat} {rule : Int} (hb : b.ok = true) (hp : PtB l) (hr : rule = 3 ∨ rule = 4 ∨ rule = 5) (hi : i < l.length) : kept b l r i rule = true ↔ ((edgeOf b l rule i).2 = true → val r (edgeOf b l rule i).1.to ≤ val r (edgeOf b l rule i).1.frm + (edgeOf b l rule i).1.wt) := by
  rw [← keepsL_kept hb hi (by omega)]
  unfold keepsL
  by_cases h : (edgeOf b l rule i).2 = true
  · have := isEdge_facts hb hp (isEdge_of hr hi h)
    rw [if_pos h, at'_val this.1, at'_val this.2.1]; simp [h]
  · rw [if_neg h]; simp [h]
theorem keepsE_iff {b : Blank} {l : List Pt} {r : List Int} (hb : b.ok = true) (hp : PtB l) : KeepsE b l (val r) ↔ ∀ i rule, i < l.length → (rule = 3 ∨ rule = 4 ∨ rule = 5) → kept b l r i rule = true := by
  constructor
  · intro h i rule hi hr
    exact (kept_edge hb hp hr hi).2 fun hf => h _ (isEdge_of hr hi hf)
  · rintro h x ⟨rule, i, hr, hi, hf, rfl⟩
    have hi' := hi
    unfold In at hi'
    obtain ⟨q, rfl⟩ : ∃ q : Nat, i = q := ⟨i.toNat, by omega⟩
    exact (kept_edge hb hp hr (by omega)).1 (h q rule (by omega) hr) hf
theorem kept_one {b : Blank} {l : List Pt} {r : List Int} {i : Nat} : kept b l r i 1 = decide (r.getD i default + (l.getD i default).out ≤ b.rim) := by simp [kept]
theorem mem_stepList' {l : List Pt} {s : Stp} (hi : In l.length s.samp) (hr : 1 ≤ s.rule ∧ s.rule ≤ 5) : s ∈ stepList l := by
  unfold In at hi
  simp only [stepList, stepTo, List.range_zero, List.map_nil, List.append_nil, List.mem_flatMap, List.mem_range, List.mem_map]
  exact ⟨s.samp.toNat, by omega, (s.rule - 1).toNat, by omega, by cases s; simp only [Stp.mk.injEq]; dsimp only at hi hr; omega⟩
theorem stepList_in {l : List Pt} {s : Stp} (h : s ∈ stepList l) : In l.length s.samp ∧ 1 ≤ s.rule ∧ s.rule ≤ 5 := by
  simp only [stepList, stepTo, List.range_zero, List.map_nil, List.append_nil, List.mem_flatMap, List.mem_range, List.mem_map] at h
  obtain ⟨i, hi, q, hq, rfl⟩ := h
  exact ⟨⟨by dsimp only; omega, by dsimp only; omega⟩, by dsimp only; omega, by dsimp only; omega⟩
theorem firstBad_iff {b : Blank} {l : List Pt} {r : List Int} (hb : b.ok = true) (hp : PtB l) : firstBad b l r = none ↔ Keeps b l (val r) := by
  unfold firstBad
  rw [List.find?_eq_none]
  have key : (∀ s ∈ stepList l, ¬ bad b l r s = true) ↔ ∀ i rule, i < l.length → 1 ≤ rule ∧ rule ≤ 5 → kept b l r i rule = true := by
    constructor
    · intro h i rule hi hr
      have := h ⟨rule, i⟩ (mem_stepList' ⟨by dsimp only; omega, by dsimp only; omega⟩ hr)
      simpa [bad] using this
    · intro h s hs
      obtain ⟨h1, h2⟩ := stepList_in hs
      unfold In at h1
      have := h s.samp.toNat s.rule (by omega) h2
      simp [bad, this]
  rw [key]
  constructor
  · intro h
    refine ⟨(keepsE_iff hb hp).2 fun i rule hi hr => h i rule hi (by omega), fun i hi => ?_, fun i hi => ?_⟩
    · unfold In at hi
      have := h i.toNat 1 (by omega) (by omega)
      rw [kept_one, decide_eq_true_eq] at this
      unfold r0 val; omega
    · have := h i 2 hi (by omega)
      rw [kept_two, decide_eq_true_eq] at this
      rw [val_nat]; exact this
  · rintro ⟨h1, h2, h3⟩ i rule hi hr
    by_cases hr1 : rule = 1
    · subst hr1
      rw [kept_one, decide_eq_true_eq]
      have := h2 i ⟨by omega, by omega⟩
      rw [val_nat] at this
      unfold r0 at this
      rw [Int.toNat_natCast] at this; omega
    · by_cases hr2 : rule = 2
      · subst hr2
        rw [kept_two, decide_eq_true_eq]
        have := h3 i hi
        rw [val_nat] at this; exact this
      · exact (keepsE_iff hb hp).1 h1 i rule hi (by omega)

/-- r is the outermost cut -/
structure Top (b : Blank) (l : List Pt) (r : List Int) : Prop where
  len : r.length = l.length
  keeps : Keeps b l (val r)
  most : ∀ r', Keeps b l r' → ∀ i, In l.length i → r' i ≤ val r i
theorem Top.unique {b : Blank} {l : List Pt} {r r' : List Int} (h : Top b l r) (h' : Top b l r') : r = r' := by
  apply List.ext_getElem (by rw [h.len, h'.len])
  intro i h1 h2
  have hi : In l.length (i : Int) := ⟨by omega, by have := h.len; omega⟩
  have e1 := h.most _ h'.keeps i hi
  have e2 := h'.most _ h.keeps i hi
  simp only [val, Int.toNat_natCast, List.getD, List.getElem?_eq_getElem h1, List.getElem?_eq_getElem h2, Option.getD_some] at e1 e2
  omega
theorem outer_top {b : Blank} {l : List Pt} (hb : b.ok = true) (hp : PtB l) : (∃ r, outer b l = some r ∧ Top b l r) ∨ (outer b l = none ∧ ¬ ∃ r, Keeps b l r) := by
  rcases greatest_best hb hp with ⟨r, hg, hbest⟩ | ⟨hg, hno⟩
  · by_cases hc : coreAll b l r = true
    · left
      refine ⟨r, by unfold outer; rw [hg]; simp [hc], hbest.len, ⟨hbest.keeps, hbest.rim, fun i hi => by rw [val_nat]; exact coreAll_iff.1 hc i hi⟩, fun r' hr' i hi => hbest.most r' hr'.edges hr'.rim i hi⟩
    · right
      refine ⟨by unfold outer; rw [hg]; simp [hc], fun ⟨r', hr'⟩ => hc (coreAll_iff.2 fun i hi => ?_)⟩
      have h1 := hbest.most r' hr'.edges hr'.rim i ⟨by omega, by omega⟩
      have h2 := hr'.core i hi
      rw [val_nat] at h1; omega
  · exact .inr ⟨outer_none hg, fun ⟨r', hr'⟩ => hno ⟨r', hr'.edges⟩⟩
theorem outer_of_top {b : Blank} {l : List Pt} {r : List Int} (hb : b.ok = true) (hp : PtB l) (h : Top b l r) : outer b l = some r := by
  rcases outer_top hb hp with ⟨r', h1, h2⟩ | ⟨_, h2⟩
  · rw [h1, h2.unique h]
  · exact absurd ⟨_, h.keeps⟩ h2
theorem outer_of_keeps {b : Blank} {l : List Pt} {r : Int → Int} (hb : b.ok = true) (hp : PtB l) (h : Keeps b l r) : ∃ r', outer b l = some r' ∧ Top b l r' := by
  rcases outer_top hb hp with h1 | ⟨_, h2⟩
  · exact h1
  · exact absurd ⟨_, h⟩ h2
/-- a cut that keeps the rules is in bounds -/
theorem keeps_rOk {b : Blank} {l : List Pt} {r : List Int} (hb : b.ok = true) (hp : PtB l) (hrl : r.length = l.length) (h : Keeps b l (val r)) : r.all rOk = true := by
  rw [Blank.ok_iff] at hb
  rw [List.all_eq_true]
  intro x hx
  obtain ⟨i, hi, rfl⟩ := List.getElem_of_mem hx
  have h1 := h.rim i ⟨by omega, by omega⟩
  have h2 := h.core i (by omega)
  have h3 := hp i (by omega)
  rw [val_nat] at h1 h2
  unfold r0 at h1
  rw [Int.toNat_natCast] at h1
  simp only [List.getD, List.getElem?_eq_getElem hi, Option.getD_some] at h1 h2 h3
  unfold rOk; rw [betw_iff]
  have h4 : (l[i]?.getD default) = (l.getD i default) := rfl
  omega
theorem cutRes_zero {b : Blank} {l : List Pt} {r : List Int} (he : both b l = 0) : (cutRes b l r).2.2 = 0 ↔ r.length = l.length ∧ Keeps b l (val r) := by
  obtain ⟨hb, hl, hpt⟩ := both_zero.1 he
  have hp := ptB_of hpt
  constructor
  · intro h
    by_cases hc : cutE b l r = 0
    · obtain ⟨_, hrl, _⟩ := cutE_zero.1 hc
      refine ⟨hrl, (firstBad_iff hb hp).1 ?_⟩
      cases hf : firstBad b l r with
      | none => rfl
      | some s => rw [cutRes_some hc hf] at h; cases h
    · rw [cutRes_err hc] at h; exact absurd h hc
  · rintro ⟨hrl, hk⟩
    have hc : cutE b l r = 0 := cutE_zero.2 ⟨he, hrl, keeps_rOk hb hp hrl hk⟩
    rw [cutRes_none hc ((firstBad_iff hb hp).2 hk)]
theorem outer_cutRes {b : Blank} {l : List Pt} {r : List Int} (he : both b l = 0) (h : outer b l = some r) : r.length = l.length ∧ (cutRes b l r).2.2 = 0 := by
  obtain ⟨hb, hl, hpt⟩ := both_zero.1 he
  rcases outer_top hb (ptB_of hpt) with ⟨r', h1, h2⟩ | ⟨h1, _⟩
  · rw [h1] at h; cases h
    exact ⟨h2.len, (cutRes_zero he).2 ⟨h2.len, h2.keeps⟩⟩
  · rw [h1] at h; cases h
theorem outer_no_cut {b : Blank} {l : List Pt} {r : List Int} (he : both b l = 0) (h : outer b l = none) : (cutRes b l r).2.2 ≠ 0 := by
  obtain ⟨hb, hl, hpt⟩ := both_zero.1 he
  intro hz
  obtain ⟨r', h1, _⟩ := outer_of_keeps hb (ptB_of hpt) ((cutRes_zero he).1 hz).2
  rw [h1] at h; cases h
theorem outer_above {b : Blank} {l : List Pt} {r R : List Int} (he : both b l = 0) (h : outer b l = some R) (hz : (cutRes b l r).2.2 = 0) : ∀ i, i < l.length → r.getD i default ≤ R.getD i default := by
  obtain ⟨hb, hl, hpt⟩ := both_zero.1 he
  obtain ⟨hrl, hk⟩ := (cutRes_zero he).1 hz
  rcases outer_top hb (ptB_of hpt) with ⟨r', h1, h2⟩ | ⟨h1, _⟩
  · rw [h1] at h; cases h
    intro i hi
    have := h2.most _ hk i ⟨by omega, by omega⟩
    rwa [val_nat, val_nat] at this
  · rw [h1] at h; cases h
theorem outE_ne {b : Blank} {l : List Pt} (he : both b l = 0) (h : outE b l ≠ 0) : outer b l = none ∧ outE b l = 15 ∧ outR b l = [] := by
  cases ho : outer b l with
  | none => exact ⟨rfl, outE_none he ho⟩
  | some r => exact absurd (outE_of he ho).1 h
theorem outE_eq {b : Blank} {l : List Pt} (he : both b l = 0) (h : outE b l = 0) : outer b l = some (outR b l) := by
  cases ho : outer b l with
  | none => rw [(outE_none he ho).1] at h; cases h
  | some r => rw [(outE_of he ho).2]
theorem of_valid {b : Blank} {l : List Pt} (h : (decide (l.length ≤ 40) && decide (both b l = 0)) = true) : l.length ≤ 40 ∧ both b l = 0 := by simpa using h
end Go.Proofs.Ytacmnmcaeflflaa
