/- Proofs that a groove has no cut: what is accepted, that it is right, and that what the search finds is accepted. -/
import Derived.Test.YtacmnmcaeflflaaLaK
namespace Go.Proofs.Ytacmnmcaeflflaa
open Go.Sx

/-- one step more of a proof: how many there were, where it is, and the sum of the weights -/
def pst (b : Blank) (l : List Pt) (o : Option (Nat × Int × Int)) (s : Stp) : Option (Nat × Int × Int) :=
  match o with
  | none => none
  | some (k, pl, sum) => if (edgeOf b l s.rule s.samp).2 = true ∧ (k = 0 ∨ ((edgeOf b l s.rule s.samp).1.frm = pl ∧ (edgeOf b l s.rule s.samp).1.frm ≠ -1)) then some (k + 1, (edgeOf b l s.rule s.samp).1.to, sum + (edgeOf b l s.rule s.samp).1.wt) else none
def pfold (b : Blank) (l : List Pt) (st : List Stp) (f0 : Int) : Option (Nat × Int × Int) := st.foldl (pst b l) (some (0, f0, 0))
def frm0 (b : Blank) (l : List Pt) (st : List Stp) : Int := (edgeOf b l (st.getD 0 default).rule (st.getD 0 default).samp).1.frm
def provesB (b : Blank) (l : List Pt) (st : List Stp) : Bool := decide (st ≠ []) && match pfold b l st (frm0 b l st) with | some (_, pl, sum) => decide (pl = frm0 b l st) && decide (sum < 0) | none => false
def refE (b : Blank) (l : List Pt) (st : List Stp) : Int := if both b l = 0 then (if 16384 < st.length then 6 else if provesB b l st then 0 else 16) else both b l
theorem foldl_none {b : Blank} {l : List Pt} : ∀ st : List Stp, st.foldl (pst b l) none = none
  | [] => rfl
  | _ :: st => foldl_none st
theorem pfold_snoc {b : Blank} {l : List Pt} {st : List Stp} {f0 : Int} {k : Nat} (hk : k < st.length) : pfold b l (st.take (k + 1)) f0 = pst b l (pfold b l (st.take k) f0) (st.getD k default) := by
  unfold pfold
  rw [List.take_succ_eq_append_getElem hk, List.foldl_append]
  simp [List.getD, hk]
theorem pfold_bad {b : Blank} {l : List Pt} {st : List Stp} {f0 : Int} {k : Nat} (hk : k < st.length) (h : pst b l (pfold b l (st.take k) f0) (st.getD k default) = none) : pfold b l st f0 = none := by
  rw [← pfold_snoc hk] at h
  unfold pfold at h ⊢
  rw [← List.take_append_drop (k + 1) st, List.foldl_append, h]
  exact foldl_none _
theorem proves_none {b : Blank} {l : List Pt} {st : List Stp} (h : pfold b l st (frm0 b l st) = none) : provesB b l st = false := by unfold provesB; rw [h]; simp
theorem proves_some {b : Blank} {l : List Pt} {st : List Stp} {k : Nat} {pl sum : Int} (hne : st ≠ []) (h : pfold b l st (frm0 b l st) = some (k, pl, sum)) : provesB b l st = (decide (pl = frm0 b l st) && decide (sum < 0)) := by unfold provesB; rw [h]; simp [hne]
/-- bounds -/
theorem edgeOf_wt {b : Blank} {l : List Pt} {rule i : Int} (hb : b.ok = true) (hp : PtB l) (hf : (edgeOf b l rule i).2 = true) : -16777216 ≤ (edgeOf b l rule i).1.wt ∧ (edgeOf b l rule i).1.wt ≤ 16777216 := by
  by_cases hi : In l.length i
  · exact (edgeOf_place hb hp hi).2.2
  · exfalso
    unfold In at hi
    unfold edgeOf at hf
    rw [if_pos (by omega)] at hf
    cases hf
theorem pfold_bd {b : Blank} {l : List Pt} {f0 : Int} (hb : b.ok = true) (hp : PtB l) {st : List Stp} : ∀ k, k ≤ st.length → ∀ q pl sum, pfold b l (st.take k) f0 = some (q, pl, sum) → q = k ∧ -(16777216 * (k : Int)) ≤ sum ∧ sum ≤ 16777216 * (k : Int)
  | 0, _, q, pl, sum, h => by
    have h' : some ((0 : Nat), f0, (0 : Int)) = some (q, pl, sum) := h
    cases h'
    exact ⟨rfl, by simp, by simp⟩
  | k + 1, hk, q, pl, sum, h => by
    rw [pfold_snoc (by omega)] at h
    cases ho : pfold b l (st.take k) f0 with
    | none => rw [ho] at h; cases h
    | some o =>
      obtain ⟨q1, pl1, sum1⟩ := o
      rw [ho] at h
      obtain ⟨e1, e2, e3⟩ := pfold_bd hb hp k (by omega) q1 pl1 sum1 ho
      simp only [pst] at h
      split at h
      · rename_i hc
        have := edgeOf_wt hb hp hc.1
        cases h
        exact ⟨by omega, by push_cast; omega, by push_cast; omega⟩
      · cases h

/-! a proof is right -/
def ext0 (r : Int → Int) (i : Int) : Int := if i = -1 then 0 else r i
theorem keeps_edge {b : Blank} {l : List Pt} {r : Int → Int} (hb : b.ok = true) (hk : Keeps b l r) {rule i : Int} (hf : (edgeOf b l rule i).2 = true) : ext0 r (edgeOf b l rule i).1.to ≤ ext0 r (edgeOf b l rule i).1.frm + (edgeOf b l rule i).1.wt := by
  rw [Blank.ok_iff] at hb
  have hi : In l.length i := by
    by_cases hi : In l.length i
    · exact hi
    · exfalso
      unfold In at hi
      unfold edgeOf at hf
      rw [if_pos (by omega)] at hf
      cases hf
  have hi' := hi
  unfold In at hi'
  have hne : ∀ j, 0 ≤ j → ext0 r j = r j := fun j hj => if_neg (by omega)
  by_cases h1 : rule = 1
  · subst h1
    rw [edgeOf_one hi]; dsimp only
    rw [hne i hi'.1, show ext0 r (-1) = 0 from rfl]
    have := hk.rim i hi; unfold r0 at this; omega
  by_cases h2 : rule = 2
  · subst h2
    rw [edgeOf_two hi]; dsimp only
    rw [hne i hi'.1, show ext0 r (-1) = 0 from rfl]
    have := hk.core i.toNat (by omega)
    rw [Int.toNat_of_nonneg hi'.1] at this; omega
  by_cases h345 : rule = 3 ∨ rule = 4 ∨ rule = 5
  · have he : IsEdge b l (edgeOf b l rule i).1 := ⟨rule, i, h345, hi, hf, rfl⟩
    have := hk.edges _ he
    have hpos : 0 ≤ (edgeOf b l rule i).1.frm ∧ 0 ≤ (edgeOf b l rule i).1.to := by
      rcases h345 with rfl | rfl | rfl
      · rw [edgeOf_three hi] at hf ⊢; simp only [decide_eq_true_eq] at hf ⊢; omega
      · rw [edgeOf_four hi] at hf ⊢; simp only [decide_eq_true_eq] at hf ⊢; omega
      · rw [edgeOf_five hi] at hf ⊢
        split at hf
        · cases hf
        · rename_i hc; rw [if_neg hc]; dsimp only; omega
    rw [hne _ hpos.1, hne _ hpos.2]; exact this
  · exfalso
    unfold edgeOf at hf
    rw [if_neg (by omega), if_neg h1, if_neg h2, if_neg (by omega), if_neg (by omega), if_neg (by omega)] at hf
    cases hf
theorem pfold_sum {b : Blank} {l : List Pt} {r : Int → Int} (hb : b.ok = true) (hk : Keeps b l r) : ∀ (st : List Stp) (k : Nat) (p0 s0 : Int), (k = 0 → ∀ s, st.head? = some s → (edgeOf b l s.rule s.samp).1.frm = p0) → ∀ q pl sum, st.foldl (pst b l) (some (k, p0, s0)) = some (q, pl, sum) → ext0 r pl ≤ ext0 r p0 + (sum - s0)
  | [], k, p0, s0, _, q, pl, sum, h => by
    have h' : some (k, p0, s0) = some (q, pl, sum) := h
    cases h'; omega
  | s :: st, k, p0, s0, h0, q, pl, sum, h => by
    rw [List.foldl_cons] at h
    simp only [pst] at h
    split at h
    · rename_i hc
      have h1 := keeps_edge hb hk hc.1
      have h2 := pfold_sum hb hk st _ _ _ (fun h => by omega) _ _ _ h
      have h3 : (edgeOf b l s.rule s.samp).1.frm = p0 := by
        rcases hc.2 with h | h
        · exact h0 h s rfl
        · exact h.1
      rw [h3] at h1; omega
    · rw [foldl_none] at h; cases h
theorem proves_right {b : Blank} {l : List Pt} {st : List Stp} (he : both b l = 0) (h : provesB b l st = true) : outer b l = none := by
  obtain ⟨hb, hl, hpt⟩ := both_zero.1 he
  rcases outer_top hb (ptB_of hpt) with ⟨r, h1, h2⟩ | ⟨h1, _⟩
  · exfalso
    unfold provesB at h
    cases ho : pfold b l st (frm0 b l st) with
    | none => rw [ho] at h; simp at h
    | some o =>
      obtain ⟨q, pl, sum⟩ := o
      rw [ho] at h
      simp only [Bool.and_eq_true, decide_eq_true_eq] at h
      have := pfold_sum hb h2.keeps st 0 (frm0 b l st) 0 (fun _ s hs => by
        unfold frm0
        cases st with
        | nil => cases hs
        | cons x st => simp only [List.head?_cons, Option.some.injEq] at hs; subst hs; rfl) q pl sum ho
      rw [h.2.1] at this; omega
  · exact h1

/-! what the search finds is accepted -/
/-- the steps back from place m - 1 to v -/
def cedges (last : List Edge) (v : Int) : Nat → List Edge
  | 0 => []
  | m + 1 => (last.getD (back last m v).toNat default) :: cedges last v m
theorem cedges_len (last : List Edge) (v : Int) : ∀ m, (cedges last v m).length = m
  | 0 => rfl
  | m + 1 => by rw [cedges, List.length_cons, cedges_len last v m]
theorem cedges_rev (last : List Edge) (v : Int) : ∀ m, ((List.range m).map fun i => (last.getD (back last i v).toNat default).stp).reverse = (cedges last v m).map Edge.stp
  | 0 => rfl
  | m + 1 => by rw [List.range_succ, List.map_append, List.reverse_append, cedges_rev last v m]; rfl
/-- what an edge says of itself -/
def Self (b : Blank) (l : List Pt) (x : Edge) : Prop := edgeOf b l x.rule x.samp = (x, true)
theorem isEdge_self {b : Blank} {l : List Pt} {x : Edge} (h : IsEdge b l x) : Self b l x ∧ (x.rule = 3 ∨ x.rule = 4 ∨ x.rule = 5) := by
  obtain ⟨rule, i, hr, hi, hf, rfl⟩ := h
  have e : (edgeOf b l rule i).1.rule = rule ∧ (edgeOf b l rule i).1.samp = i := by
    unfold edgeOf; (repeat' split) <;> exact ⟨rfl, rfl⟩
  refine ⟨?_, by rw [e.1]; exact hr⟩
  unfold Self
  rw [e.1, e.2, ← hf]
theorem fold_back {b : Blank} {l : List Pt} {s : Srch} {v : Int} : ∀ (m k : Nat) (sum : Int), (∀ i, i < m → Self b l (Lst s (back s.last i v)) ∧ (Lst s (back s.last i v)).to = back s.last i v ∧ back s.last (i + 1) v ≠ -1) →
    ((cedges s.last v m).map Edge.stp).foldl (pst b l) (some (k + 1, back s.last m v, sum)) = some (k + 1 + m, v, sum + wsum s.last v m)
  | 0, k, sum, _ => by simp [cedges, back, wsum]
  | m + 1, k, sum, h => by
    obtain ⟨h1, h2, h3⟩ := h m (by omega)
    have e1 : cedges s.last v (m + 1) = Lst s (back s.last m v) :: cedges s.last v m := rfl
    have e2 : back s.last (m + 1) v = (Lst s (back s.last m v)).frm := rfl
    have e3 : edgeOf b l (Lst s (back s.last m v)).stp.rule (Lst s (back s.last m v)).stp.samp = (Lst s (back s.last m v), true) := h1
    rw [e1, List.map_cons, List.foldl_cons]
    have e4 : pst b l (some (k + 1, back s.last (m + 1) v, sum)) (Lst s (back s.last m v)).stp = some (k + 1 + 1, back s.last m v, sum + (Lst s (back s.last m v)).wt) := by
      simp only [pst, e3]
      rw [if_pos ⟨trivial, .inr ⟨e2.symm, by rw [← e2]; exact h3⟩⟩, h2]
    rw [e4, fold_back m (k + 1) _ (fun i hi => h i (by omega))]
    have e5 : wsum s.last v (m + 1) = wsum s.last v m + (Lst s (back s.last m v)).wt := rfl
    rw [e5]; congr 2
    · omega
    · congr 1; omega
/-- the first step, wherever it begins -/
theorem fold_first {b : Blank} {l : List Pt} {x : Edge} (h : Self b l x) (f0 : Int) : pst b l (some (0, f0, 0)) x.stp = some (1, x.to, x.wt) := by
  have e3 : edgeOf b l x.stp.rule x.stp.samp = (x, true) := h
  simp [pst, e3]

/-- a circle, from place m - 1 of it on, is accepted -/
theorem circle_proves {b : Blank} {l : List Pt} {s : Srch} {v : Int} {m : Nat} (hm : 0 < m) (hback : back s.last m v = v) (h : ∀ i, Self b l (Lst s (back s.last i v)) ∧ (Lst s (back s.last i v)).to = back s.last i v ∧ back s.last (i + 1) v ≠ -1) (hs : wsum s.last v m < 0) : provesB b l ((cedges s.last v m).map Edge.stp) = true := by
  obtain ⟨n, rfl⟩ : ∃ n, m = n + 1 := ⟨m - 1, by omega⟩
  have e1 : cedges s.last v (n + 1) = Lst s (back s.last n v) :: cedges s.last v n := rfl
  obtain ⟨h1, h2, h3⟩ := h n
  have e3 : edgeOf b l (Lst s (back s.last n v)).stp.rule (Lst s (back s.last n v)).stp.samp = (Lst s (back s.last n v), true) := h1
  have ef : frm0 b l ((cedges s.last v (n + 1)).map Edge.stp) = v := by
    unfold frm0
    rw [e1, List.map_cons]
    show (edgeOf b l (Lst s (back s.last n v)).stp.rule (Lst s (back s.last n v)).stp.samp).1.frm = v
    rw [e3]
    exact hback
  have hfold : pfold b l ((cedges s.last v (n + 1)).map Edge.stp) v = some (n + 1, v, wsum s.last v (n + 1)) := by
    unfold pfold
    rw [e1, List.map_cons, List.foldl_cons, fold_first h1, h2, fold_back n 0 _ (fun i _ => h i)]
    have e5 : wsum s.last v (n + 1) = wsum s.last v n + (Lst s (back s.last n v)).wt := rfl
    rw [e5]; congr 2
    · omega
    · congr 1; omega
  rw [proves_some (by rw [e1]; simp) (by rw [ef]; exact hfold), ef]
  simp [hs]
/-- a way from the rim to the core is accepted -/
theorem way_proves {b : Blank} {l : List Pt} {s : Srch} {x : Edge} {m : Nat} (hx : Self b l x) (hto : x.to = -1) (hfr : x.frm ≠ -1) (hm : 0 < m) (hrim : back s.last m x.frm = -1) (h : ∀ i, i < m → Self b l (Lst s (back s.last i x.frm)) ∧ (Lst s (back s.last i x.frm)).to = back s.last i x.frm ∧ back s.last i x.frm ≠ -1) (hs : wsum s.last x.frm m + x.wt < 0) :
    provesB b l ((cedges s.last x.frm m).map Edge.stp ++ [x.stp]) = true := by
  obtain ⟨n, rfl⟩ : ∃ n, m = n + 1 := ⟨m - 1, by omega⟩
  have e1 : cedges s.last x.frm (n + 1) = Lst s (back s.last n x.frm) :: cedges s.last x.frm n := rfl
  obtain ⟨h1, h2, h3⟩ := h n (by omega)
  have e3 : edgeOf b l (Lst s (back s.last n x.frm)).stp.rule (Lst s (back s.last n x.frm)).stp.samp = (Lst s (back s.last n x.frm), true) := h1
  have ef : frm0 b l ((cedges s.last x.frm (n + 1)).map Edge.stp ++ [x.stp]) = -1 := by
    unfold frm0
    rw [e1, List.map_cons]
    show (edgeOf b l (Lst s (back s.last n x.frm)).stp.rule (Lst s (back s.last n x.frm)).stp.samp).1.frm = -1
    rw [e3]
    exact hrim
  have e4 : edgeOf b l x.stp.rule x.stp.samp = (x, true) := hx
  have hfold : pfold b l ((cedges s.last x.frm (n + 1)).map Edge.stp ++ [x.stp]) (-1) = some (n + 2, -1, wsum s.last x.frm (n + 1) + x.wt) := by
    have hA : ((cedges s.last x.frm (n + 1)).map Edge.stp).foldl (pst b l) (some (0, -1, 0)) = some (n + 1, x.frm, wsum s.last x.frm (n + 1)) := by
      rw [e1, List.map_cons, List.foldl_cons, fold_first h1, h2, fold_back n 0 _ (fun i hi => by
        obtain ⟨q1, q2, _⟩ := h i (by omega)
        exact ⟨q1, q2, (h (i + 1) (by omega)).2.2⟩)]
      have e5 : wsum s.last x.frm (n + 1) = wsum s.last x.frm n + (Lst s (back s.last n x.frm)).wt := rfl
      rw [e5]; congr 2
      · omega
      · congr 1; omega
    unfold pfold
    rw [List.foldl_append, hA, List.foldl_cons, List.foldl_nil]
    simp only [pst, e4]
    rw [if_pos ⟨trivial, .inr ⟨trivial, hfr⟩⟩, hto]
  rw [proves_some (by simp) (by rw [ef]; exact hfold), ef]
  simp [hs]
end Go.Proofs.Ytacmnmcaeflflaa
