/- What the outermost cut is, and what the lathe's search has to do with it. -/
import Derived.Test.YtacmnmcaeflflaaLa6
import Derived.Test.YtacmnmcaeflflaaLaW
namespace Go.Proofs.Ytacmnmcaeflflaa
open Go.Sx

/-- the error of a blank and points -/
def both (b : Blank) (l : List Pt) : Int := if b.ok then ptsCheck l else 2
theorem both_zero {b : Blank} {l : List Pt} : both b l = 0 ↔ b.ok = true ∧ l.length ≤ 4096 ∧ l.all ptOk = true := by
  unfold both ptsCheck
  constructor
  · intro h
    split at h
    · rename_i hb
      split at h
      · cases h
      · split at h
        · exact ⟨hb, by omega, by assumption⟩
        · cases h
    · cases h
  · rintro ⟨h1, h2, h3⟩
    rw [if_pos h1, if_neg (by omega), if_pos h3]
theorem both_bad {b : Blank} {l : List Pt} (h : b.ok = false) : both b l = 2 := by unfold both; rw [h]; rfl
theorem both_ok {b : Blank} {l : List Pt} (h : b.ok = true) : both b l = ptsCheck l := by unfold both; rw [h]; rfl

def coreAll (b : Blank) (l : List Pt) (r : List Int) : Bool := (List.range l.length).all fun i => decide (b.core ≤ r.getD i default + (l.getD i default).inn)
theorem coreAll_iff {b : Blank} {l : List Pt} {r : List Int} : coreAll b l r = true ↔ ∀ i, i < l.length → b.core ≤ r.getD i default + (l.getD i default).inn := by simp [coreAll]
/-- the radii of the outermost cut, if there is one -/
def outer (b : Blank) (l : List Pt) : Option (List Int) := (greatest b l).bind fun r => if coreAll b l r then some r else none
def outE (b : Blank) (l : List Pt) : Int := if both b l = 0 then (if (outer b l).isSome then 0 else 15) else both b l
def outR (b : Blank) (l : List Pt) : List Int := if both b l = 0 then (outer b l).getD [] else []

theorem search_outer {b : Blank} {l : List Pt} {rad : List Int} {st : List Stp} (hb : b.ok = true) (hp : PtB l) (h : Search b l rad st) : (st = [] ∧ outer b l = some rad) ∨ (0 < st.length ∧ outer b l = none) := by
  have hw : ∀ i : Nat, i < l.length → (edgeOf b l 2 i).1.wt = (l.getD i default).inn - b.core := by
    intro i hi
    rw [edgeOf_two ⟨by omega, by omega⟩]; simp
  rcases settled_best hb hp with ⟨hc, hbest⟩ | ⟨hc, hno⟩
  · obtain ⟨r, hr, hbr⟩ : ∃ r, greatest b l = some r ∧ Best b l r := by
      rcases greatest_best hb hp with ⟨r, h1, h2⟩ | ⟨_, h2⟩
      · exact ⟨r, h1, h2⟩
      · exact absurd ⟨_, hbest.keeps⟩ h2
    obtain rfl := hbr.unique hbest
    rcases h with ⟨h1, _⟩ | ⟨_, _, i, hi, hlt, m, _, rfl⟩ | ⟨_, rfl, rfl, hge⟩
    · exact absurd hc h1
    · right
      refine ⟨by rw [List.length_reverse, wsteps_length]; omega, ?_⟩
      unfold outer; rw [hr]
      have : coreAll b l (settled b l).r = false := by
        cases hca : coreAll b l (settled b l).r with
        | false => rfl
        | true => have := coreAll_iff.1 hca i hi; rw [hw i hi] at hlt; omega
      simp [this]
    · left
      refine ⟨rfl, ?_⟩
      unfold outer; rw [hr]
      have : coreAll b l (settled b l).r = true := coreAll_iff.2 (fun i hi => by have := hge i hi; rw [hw i hi] at this; omega)
      simp [this]
  · rcases h with ⟨_, _, m, hm, rfl⟩ | ⟨h1, _⟩ | ⟨h1, _⟩
    · right
      refine ⟨by rw [List.length_reverse, csteps_length]; exact hm.1, ?_⟩
      rcases greatest_best hb hp with ⟨r, h1, h2⟩ | ⟨h1, _⟩
      · exact absurd ⟨_, h2.keeps⟩ hno
      · unfold outer; rw [h1]; rfl
    · exact absurd h1 hc
    · exact absurd h1 hc
theorem outE_of {b : Blank} {l : List Pt} (h : both b l = 0) {r : List Int} (h2 : outer b l = some r) : outE b l = 0 ∧ outR b l = r := by simp [outE, outR, h, h2]
theorem outE_none {b : Blank} {l : List Pt} (h : both b l = 0) (h2 : outer b l = none) : outE b l = 15 ∧ outR b l = [] := by simp [outE, outR, h, h2]
theorem outE_err {b : Blank} {l : List Pt} (h : both b l ≠ 0) : outE b l = both b l ∧ outR b l = [] := by simp [outE, outR, h]

/-- a rule at a sample, as the reference has it -/
def kept (b : Blank) (l : List Pt) (r : List Int) (i : Nat) (rule : Int) : Bool :=
  if rule = 1 then decide (r.getD i default + (l.getD i default).out ≤ b.rim)
  else if rule = 2 then decide (b.core ≤ r.getD i default + (l.getD i default).inn)
  else if rule = 3 then decide (i < 1 ∨ b.slow ≤ r.getD (i - 1) default - r.getD i default)
  else if rule = 4 then decide (i < 1 ∨ r.getD (i - 1) default - r.getD i default ≤ b.fast)
  else decide ((i : Int) < b.per ∨ b.land ≤ r.getD (i - b.per.toNat) default + (l.getD (i - b.per.toNat) default).inn - (r.getD i default + (l.getD i default).out))
/-- all of r are small -/
def Sm (r : List Int) : Prop := ∀ q, q < r.length → -1152921504606846976 ≤ r.getD q default ∧ r.getD q default ≤ 1152921504606846976

theorem sweepTo_bd {b : Blank} {l : List Pt} (hb : b.ok = true) (hp : PtB l) : ∀ (k : Nat) (r : List Int) (lo : Int), r.length = l.length → Bd r l.length lo → k ≤ l.length → Bd (sweepTo b l k r).1 l.length (lo - 16777216 * k)
  | 0, r, lo, _, h, _ => by simpa [sweepTo] using h
  | k + 1, r, lo, hn, h, hk => by
    have h1 := sweepTo_bd hb hp k r lo hn h (by omega)
    have h2 := Bd.set (i := k) h1 (by rw [sweepTo_len]; omega) (most_bd (i := k) hb h1 (by omega) hp)
    simp only [sweepTo]
    intro q hq
    have := h2 q hq
    push_cast
    omega
theorem grounds_bd {b : Blank} {l : List Pt} (hb : b.ok = true) (hp : PtB l) : ∀ (f : Nat) (r : List Int) (lo : Int) (r' : List Int), r.length = l.length → Bd r l.length lo → grounds b l f r = some r' → r'.length = l.length ∧ Bd r' l.length (lo - 16777216 * (f * l.length : Nat))
  | 0, _, _, _, _, _, h => by cases h
  | f + 1, r, lo, r', hn, h, hg => by
    have h1 := sweepTo_bd hb hp l.length r lo hn h (Nat.le_refl _)
    have hl1 : (sweepTo b l l.length r).1.length = l.length := by rw [sweepTo_len, hn]
    have eg : grounds b l (f + 1) r = if (sweepTo b l l.length r).2 then grounds b l f (sweepTo b l l.length r).1 else some (sweepTo b l l.length r).1 := rfl
    rw [eg] at hg
    split at hg
    · obtain ⟨h2, h3⟩ := grounds_bd hb hp f _ _ r' hl1 h1 hg
      refine ⟨h2, fun q hq => ?_⟩
      have := h3 q hq
      rw [Nat.succ_mul]; generalize f * l.length = z at *; push_cast at this ⊢; omega
    · injection hg with hg
      subst hg
      refine ⟨hl1, fun q hq => ?_⟩
      have := h1 q hq
      rw [Nat.succ_mul]; generalize f * l.length = z at *; push_cast at this ⊢; omega
theorem greatest_sm {b : Blank} {l : List Pt} (hb : b.ok = true) (hp : PtB l) (hl : l.length ≤ 4096) {r : List Int} (h : greatest b l = some r) : r.length = l.length ∧ Sm r := by
  obtain ⟨h1, h2⟩ := grounds_bd hb hp _ _ _ r (start_length b l) (start_bd hb hp) h
  refine ⟨h1, fun q hq => ?_⟩
  have h3 : (l.length + 2) * l.length ≤ 4098 * 4096 := Nat.mul_le_mul (by omega) hl
  have := h2 q (by omega)
  omega
end Go.Proofs.Ytacmnmcaeflflaa
