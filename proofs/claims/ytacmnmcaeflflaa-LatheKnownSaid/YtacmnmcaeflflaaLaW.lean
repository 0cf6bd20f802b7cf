/- The lathe's rounds and the reference's sweeps come to the same radii, if there are any. -/
import Derived.Test.YtacmnmcaeflflaaLaU
namespace Go.Proofs.Ytacmnmcaeflflaa
open Go.Sx

def val (r : List Int) (i : Int) : Int := r.getD i.toNat default
/-- r keeps the rules between samples -/
def KeepsE (b : Blank) (l : List Pt) (r : Int → Int) : Prop := ∀ x, IsEdge b l x → r x.to ≤ r x.frm + x.wt
/-- r keeps the rules between samples, and that of the rim, and nothing that does is farther out anywhere -/
structure Best (b : Blank) (l : List Pt) (r : List Int) : Prop where
  len : r.length = l.length
  keeps : KeepsE b l (val r)
  rim : ∀ i, In l.length i → val r i ≤ r0 b l i
  most : ∀ r', KeepsE b l r' → (∀ i, In l.length i → r' i ≤ r0 b l i) → ∀ i, In l.length i → r' i ≤ val r i
theorem Best.unique {b : Blank} {l : List Pt} {r r' : List Int} (h : Best b l r) (h' : Best b l r') : r = r' := by
  apply List.ext_getElem (by rw [h.len, h'.len])
  intro i h1 h2
  have hi : In l.length (i : Int) := ⟨by omega, by have := h.len; omega⟩
  have e1 := h.most _ h'.keeps h'.rim i hi
  have e2 := h'.most _ h.keeps h.rim i hi
  simp only [val, Int.toNat_natCast, List.getD, List.getElem?_eq_getElem h1, List.getElem?_eq_getElem h2, Option.getD_some] at e1 e2
  omega

section
variable {b : Blank} {l : List Pt} {E : List Edge}
/-- a circle: nothing keeps the rules -/
theorem none_of_circle {s : Srch} {p t : Nat} {rho tau : Int → Nat} (hE : Edges l.length E) (hmem : ∀ x, x ∈ E → IsEdge b l x) (h : Inv l.length E (r0 b l) (e0 b l) s p t E rho tau) (hp : l.length ≤ p) (hc : s.ch ≠ -1) : ¬ ∃ r, KeepsE b l r := by
  rintro ⟨r, hr⟩
  have hto : ∀ i, In l.length i → Lst s i ∈ E → (Lst s i).to = i := by
    intro i hi hm
    by_cases h0 : rho i = 0
    · rw [(h.zero i hi h0).1]; rfl
    · exact (h.anc i hi (by omega)).2.1
  obtain ⟨g1, g2, m, hm0, hmn, hmb⟩ := h.circle hE hp hc
  have hk := kept_sum (E := E) (s := s) (v := back s.last l.length s.ch) (r' := r) (fun x hx => hr x (hmem x hx)) m (fun i _ => by
    rw [← back_add]
    exact ⟨(g2 _).1, hto _ (g1 _) (g2 _).1⟩)
  have hb := circle_below (s := s) (tau := tau) (v := back s.last l.length s.ch) (fun i => by
    rw [← back_add, ← back_add]
    exact (g2 _).2) hm0 hmb
  rw [hmb] at hk
  omega
/-- settled: the best -/
theorem best_of_settled {s : Srch} {p t : Nat} {rho tau : Int → Nat} (hE : Edges l.length E) (hmem : ∀ x, IsEdge b l x → x ∈ E) (h : Inv l.length E (r0 b l) (e0 b l) s p t E rho tau) (hc : s.ch = -1) (hle : ∀ i, In l.length i → R s i ≤ r0 b l i) (hm : ∀ r', KeepsE b l r' → (∀ i, In l.length i → r' i ≤ r0 b l i) → ∀ i, In l.length i → r' i ≤ R s i) : Best b l s.r :=
  ⟨h.rl, fun x hx => h.settled hE hc x (hmem x hx), hle, hm⟩

/-! what holds of r from round to round: it is nowhere above the first one, nor below what keeps the rules -/
structure Mid (b : Blank) (l : List Pt) (r : List Int) : Prop where
  len : r.length = l.length
  le : ∀ i, In l.length i → val r i ≤ r0 b l i
  ge : ∀ r', KeepsE b l r' → (∀ i, In l.length i → r' i ≤ r0 b l i) → ∀ i, In l.length i → r' i ≤ val r i
theorem Mid.start : Mid b l (start b l) := ⟨start_length b l, fun i hi => Int.le_of_eq (start_R (L := []) (c := 0) hi), fun r' _ h i hi => by have := h i hi; have e : val (Go.Proofs.Ytacmnmcaeflflaa.start b l) i = r0 b l i := start_R (L := []) (c := 0) hi; rw [e]; exact this⟩
theorem Mid.fold {r : List Int} {last : List Edge} (h : Mid b l r) (hE : Edges l.length E) (hmem : ∀ x, x ∈ E → IsEdge b l x) : Mid b l (E.foldl relax ⟨r, last, -1⟩).r :=
  ⟨by rw [foldl_rlen]; exact h.len, fun i hi => Int.le_trans (foldl_below E ⟨r, last, -1⟩ h.len hE i hi) (h.le i hi), fun r' hk hr i hi => foldl_above (r' := r') E ⟨r, last, -1⟩ h.len hE (fun x hx => hk x (hmem x hx)) (h.ge r' hk hr) i hi⟩

theorem rounds_mid (hE : Edges l.length (edgeList b l)) : ∀ (f : Nat) (r : List Int) (last : List Edge), Mid b l r → Mid b l (rounds b l f r last).r
  | 0, r, last, h => h
  | f + 1, r, last, h => by
    have h1 : Mid b l (round b l r last).r := h.fold hE (fun x hx => mem_edgeList.1 hx)
    by_cases hc : (round b l r last).ch = -1
    · rw [rounds_stop hc]; exact h1
    · by_cases hf : f = 0
      · subst hf; rw [rounds_last]; exact h1
      · rw [rounds_go hc hf]; exact rounds_mid hE f _ _ h1
end

theorem settled_best {b : Blank} {l : List Pt} (hb : b.ok = true) (hp : PtB l) : ((settled b l).ch = -1 ∧ Best b l (settled b l).r) ∨ ((settled b l).ch ≠ -1 ∧ ¬ ∃ r, KeepsE b l r) := by
  have hE := edges_edgeList hb hp
  obtain ⟨p, t, rho, tau, h1, h2, _⟩ := settled_inv hb hp
  have hm : Mid b l (settled b l).r := rounds_mid hE _ _ _ Mid.start
  by_cases hc : (settled b l).ch = -1
  · exact .inl ⟨hc, best_of_settled hE (fun x hx => mem_edgeList.2 hx) h1 hc hm.le hm.ge⟩
  · exact .inr ⟨hc, none_of_circle hE (fun x hx => mem_edgeList.1 hx) h1 (h2 hc) hc⟩

/-! the sweeps of the reference -/
def into (b : Blank) (l : List Pt) (i : Nat) : List Edge := optE (edgeOf b l 3 i) ++ (optE (edgeOf b l 5 i) ++ if i + 1 < l.length then optE (edgeOf b l 4 ((i : Int) + 1)) else [])
def sweepList (b : Blank) (l : List Pt) (k : Nat) : List Edge := (List.range k).flatMap (into b l)
theorem mem_sweepList {b : Blank} {l : List Pt} {x : Edge} : x ∈ sweepList b l l.length ↔ IsEdge b l x := by
  unfold sweepList IsEdge
  simp only [List.mem_flatMap, List.mem_range, into, List.mem_append, mem_optE]
  constructor
  · rintro ⟨i, hi, h | h | h⟩
    · exact ⟨3, i, .inl rfl, ⟨by omega, by omega⟩, h⟩
    · exact ⟨5, i, .inr (.inr rfl), ⟨by omega, by omega⟩, h⟩
    · split at h
      · exact ⟨4, (i : Int) + 1, .inr (.inl rfl), ⟨by omega, by omega⟩, mem_optE.1 h⟩
      · cases h
  · rintro ⟨rule, i, hr, hi, h1, h2⟩
    have hi' := hi
    unfold In at hi'
    have e1 : ((i.toNat : Nat) : Int) = i := by omega
    rcases hr with rfl | rfl | rfl
    · exact ⟨i.toNat, by omega, .inl (by rw [e1]; exact ⟨h1, h2⟩)⟩
    · have h3 : 0 < i := by rw [edgeOf_four hi] at h1; simpa using h1
      have e : (((i.toNat - 1 : Nat) : Int) + 1) = i := by omega
      exact ⟨i.toNat - 1, by omega, .inr (.inr (by rw [if_pos (by omega), e]; exact mem_optE.2 ⟨h1, h2⟩))⟩
    · exact ⟨i.toNat, by omega, .inr (.inl (by rw [e1]; exact ⟨h1, h2⟩))⟩
theorem edges_sweep {b : Blank} {l : List Pt} (hb : b.ok = true) (hp : PtB l) : Edges l.length (sweepList b l l.length) := fun x hx => by
  have := isEdge_facts hb hp (mem_sweepList.1 hx)
  exact ⟨this.1, this.2.1, this.2.2.1⟩

/-- an edge into i, when i may have fallen already -/
theorem relax_into {r : List Int} {L : List Edge} {i : Nat} {v c : Int} {x : Edge} (hi : i < r.length) (ht : x.to = i) (hf : 0 ≤ x.frm) (hne : x.frm ≠ x.to) : ∃ L' c', relax ⟨r.set i v, L, c⟩ x = ⟨r.set i (min v (val r x.frm + x.wt)), L', c'⟩ ∧ (c' ≠ -1 ↔ c ≠ -1 ∨ val r x.frm + x.wt < v) := by
  have h1 : R ⟨r.set i v, L, c⟩ x.to = v := by unfold R; rw [ht]; simp [List.getD, hi]
  have h2 : R ⟨r.set i v, L, c⟩ x.frm = val r x.frm := by unfold R val; dsimp only; rw [getD_set_ne (by omega)]
  by_cases hr : R ⟨r.set i v, L, c⟩ x.to ≤ R ⟨r.set i v, L, c⟩ x.frm + x.wt
  · rw [relax_no hr]
    rw [h1, h2] at hr
    exact ⟨L, c, by rw [Int.min_eq_left hr], by constructor; exact .inl; rintro (h | h); exact h; omega⟩
  · rw [relax_yes hr, h2]
    rw [h1, h2] at hr
    refine ⟨_, _, by rw [ht, Int.toNat_natCast, List.set_set, Int.min_eq_right (by omega)], ?_⟩
    constructor
    · intro _; right; omega
    · intro _; omega
theorem fold_none {r : List Int} {L : List Edge} {c : Int} : [].foldl relax ⟨r, L, c⟩ = ⟨r, L, c⟩ := rfl
theorem relax_opt {r : List Int} {L : List Edge} {i : Nat} {v c : Int} {e : Edge × Bool} (hi : i < r.length) (h : e.2 = true → e.1.to = i ∧ 0 ≤ e.1.frm ∧ e.1.frm ≠ e.1.to) : ∃ L' c', (optE e).foldl relax ⟨r.set i v, L, c⟩ = ⟨r.set i (if e.2 = true then min v (val r e.1.frm + e.1.wt) else v), L', c'⟩ ∧ (c' ≠ -1 ↔ c ≠ -1 ∨ e.2 = true ∧ val r e.1.frm + e.1.wt < v) := by
  unfold optE
  by_cases he : e.2 = true
  · obtain ⟨h1, h2, h3⟩ := h he
    obtain ⟨L', c', g1, g2⟩ := relax_into (L := L) (v := v) (c := c) hi h1 h2 h3
    rw [if_pos he, if_pos he]
    exact ⟨L', c', g1, by simpa [he] using g2⟩
  · rw [if_neg he, if_neg he]
    exact ⟨L, c, rfl, by simp [he]⟩

theorem into_most {b : Blank} {l : List Pt} {r : List Int} {L : List Edge} {i : Nat} {c : Int} (hb : b.ok = true) (hn : r.length = l.length) (hi : i < l.length) : ∃ L' c', (into b l i).foldl relax ⟨r, L, c⟩ = ⟨r.set i (most b l r i), L', c'⟩ ∧ (c' ≠ -1 ↔ c ≠ -1 ∨ most b l r i < r.getD i default) := by
  rw [Blank.ok_iff] at hb
  have hIn : In l.length (i : Int) := ⟨by omega, by omega⟩
  have e0 : r = r.set i (r.getD i default) := by
    apply List.ext_getElem?
    intro q
    rw [List.getElem?_set]
    split
    · rename_i e; subst e; simp [List.getD, hn, hi]
    · rfl
  have hs : (⟨r, L, c⟩ : Srch) = ⟨r.set i (r.getD i default), L, c⟩ := by rw [← e0]
  rw [hs]
  unfold into
  rw [List.foldl_append, List.foldl_append]
  obtain ⟨L1, c1, g1, g2⟩ := relax_opt (r := r) (L := L) (c := c) (v := r.getD i default) (i := i) (e := edgeOf b l 3 i) (by omega) (by rw [edgeOf_three hIn]; simp only [decide_eq_true_eq]; intro h; exact ⟨trivial, by omega, by omega⟩)
  rw [g1]
  have m1 : (if (edgeOf b l 3 i).2 = true then min (r.getD i default) (val r (edgeOf b l 3 i).1.frm + (edgeOf b l 3 i).1.wt) else r.getD i default) = most1 b r i := by
    rw [edgeOf_three hIn]; unfold most1 val
    simp only [decide_eq_true_eq, show ((0 : Int) < (i : Int)) = (0 < i) by simp]
    rw [show ((i : Int) - 1).toNat = i - 1 by omega]
    split
    · congr 1; omega
    · rfl
  rw [m1]
  have k1 : ((edgeOf b l 3 i).2 = true ∧ val r (edgeOf b l 3 i).1.frm + (edgeOf b l 3 i).1.wt < r.getD i default) ↔ most1 b r i < r.getD i default := by
    rw [← m1]
    by_cases h : (edgeOf b l 3 i).2 = true
    · rw [if_pos h]; simp only [h, true_and]; omega
    · rw [if_neg h]; simp only [h]; simp
  obtain ⟨L2, c2, g3, g4⟩ := relax_opt (r := r) (L := L1) (c := c1) (v := most1 b r i) (i := i) (e := edgeOf b l 5 i) (by omega) (by
    rw [edgeOf_five hIn]; split
    · intro h; cases h
    · intro _; exact ⟨rfl, by dsimp only; omega, by dsimp only; omega⟩)
  rw [g3]
  have m2 : (if (edgeOf b l 5 i).2 = true then min (most1 b r i) (val r (edgeOf b l 5 i).1.frm + (edgeOf b l 5 i).1.wt) else most1 b r i) = most2 b l r i := by
    rw [edgeOf_five hIn]; unfold most2 val
    by_cases hper : (i : Int) < b.per
    · rw [if_pos hper, if_neg (by simp), if_neg (by omega)]
    · rw [if_neg hper, if_pos rfl, if_pos (by omega)]
      dsimp only
      rw [show ((i : Int) - b.per).toNat = i - b.per.toNat by omega, show ((i : Int)).toNat = i by omega]
      congr 1; omega
  rw [m2]
  have k2 : ((edgeOf b l 5 i).2 = true ∧ val r (edgeOf b l 5 i).1.frm + (edgeOf b l 5 i).1.wt < most1 b r i) ↔ most2 b l r i < most1 b r i := by
    rw [← m2]; split
    · rename_i h; simp only [h, true_and]; omega
    · rename_i h; simp only [h]; simp
  have hm12 : most2 b l r i ≤ most1 b r i := by unfold most2; split <;> omega
  have hm01 : most1 b r i ≤ r.getD i default := by unfold most1; split <;> omega
  by_cases hl : i + 1 < l.length
  · rw [if_pos hl]
    have hIn2 : In l.length ((i : Int) + 1) := ⟨by omega, by omega⟩
    obtain ⟨L3, c3, g5, g6⟩ := relax_opt (r := r) (L := L2) (c := c2) (v := most2 b l r i) (i := i) (e := edgeOf b l 4 ((i : Int) + 1)) (by omega) (by rw [edgeOf_four hIn2]; intro _; dsimp only; exact ⟨by omega, by omega, by omega⟩)
    rw [g5]
    have m3 : (if (edgeOf b l 4 ((i : Int) + 1)).2 = true then min (most2 b l r i) (val r (edgeOf b l 4 ((i : Int) + 1)).1.frm + (edgeOf b l 4 ((i : Int) + 1)).1.wt) else most2 b l r i) = most b l r i := by
      rw [edgeOf_four hIn2]; unfold most val
      rw [if_pos hl, if_pos (by rw [decide_eq_true_eq]; omega)]
      dsimp only
      rw [show ((i : Int) + 1).toNat = i + 1 by omega]
    rw [m3]
    refine ⟨L3, c3, rfl, ?_⟩
    have k3 : ((edgeOf b l 4 ((i : Int) + 1)).2 = true ∧ val r (edgeOf b l 4 ((i : Int) + 1)).1.frm + (edgeOf b l 4 ((i : Int) + 1)).1.wt < most2 b l r i) ↔ most b l r i < most2 b l r i := by
      rw [← m3]; split
      · rename_i h; simp only [h, true_and]; omega
      · rename_i h; simp only [h]; simp
    have hm23 : most b l r i ≤ most2 b l r i := by unfold most; split <;> omega
    rw [g6, k3, g4, k2, g2, k1]
    constructor
    · rintro (((h | h) | h) | h)
      · exact .inl h
      · right; omega
      · right; omega
      · right; omega
    · rintro (h | h)
      · exact .inl (.inl (.inl h))
      · by_cases q1 : most b l r i < most2 b l r i
        · exact .inr q1
        · by_cases q2 : most2 b l r i < most1 b r i
          · exact .inl (.inr q2)
          · exact .inl (.inl (.inr (by omega)))
  · rw [if_neg hl]
    have m3 : most b l r i = most2 b l r i := by unfold most; rw [if_neg hl]
    rw [m3]
    refine ⟨L2, c2, rfl, ?_⟩
    rw [g4, k2, g2, k1]
    constructor
    · rintro ((h | h) | h)
      · exact .inl h
      · right; omega
      · right; omega
    · rintro (h | h)
      · exact .inl (.inl h)
      · by_cases q2 : most2 b l r i < most1 b r i
        · exact .inr q2
        · exact .inl (.inr (by omega))

theorem sweepTo_len (b : Blank) (l : List Pt) : ∀ (k : Nat) (r : List Int), (sweepTo b l k r).1.length = r.length
  | 0, r => rfl
  | k + 1, r => by simp only [sweepTo, List.length_set]; exact sweepTo_len b l k r
theorem sweep_relax {b : Blank} {l : List Pt} {r : List Int} {L : List Edge} (hb : b.ok = true) (hn : r.length = l.length) : ∀ k, k ≤ l.length → ∃ L' c', (sweepList b l k).foldl relax ⟨r, L, -1⟩ = ⟨(sweepTo b l k r).1, L', c'⟩ ∧ (c' ≠ -1 ↔ (sweepTo b l k r).2 = true)
  | 0, _ => ⟨L, -1, rfl, by simp [sweepTo]⟩
  | k + 1, hk => by
    obtain ⟨L1, c1, g1, g2⟩ := sweep_relax hb hn k (by omega)
    have e : sweepList b l (k + 1) = sweepList b l k ++ into b l k := by simp [sweepList, List.range_succ]
    rw [e, List.foldl_append, g1]
    obtain ⟨L2, c2, g3, g4⟩ := into_most (L := L1) (c := c1) (r := (sweepTo b l k r).1) hb (by rw [sweepTo_len, hn]) (show k < l.length by omega)
    refine ⟨L2, c2, g3, ?_⟩
    rw [g4, g2]
    simp [sweepTo]

theorem grounds_best {b : Blank} {l : List Pt} (hb : b.ok = true) (hp : PtB l) : ∀ (f p t : Nat) (r : List Int) (L : List Edge) (rho tau : Int → Nat), Inv l.length (sweepList b l l.length) (r0 b l) (e0 b l) ⟨r, L, -1⟩ p t [] rho tau → Mid b l r → 0 < f → l.length + 1 ≤ p + f →
    (∃ r', grounds b l f r = some r' ∧ Best b l r') ∨ (grounds b l f r = none ∧ ¬ ∃ r, KeepsE b l r)
  | 0, _, _, _, _, _, _, _, _, h, _ => by omega
  | f + 1, p, t, r, L, rho, tau, h, hm, _, hpf => by
    have hE := edges_sweep hb hp
    obtain ⟨rho1, tau1, h1⟩ := h.round hE
    have hm1 := hm.fold (last := L) hE (fun x hx => mem_sweepList.1 hx)
    obtain ⟨L', c', g1, g2⟩ := sweep_relax (L := L) hb h.rl l.length (Nat.le_refl _)
    rw [g1] at h1 hm1
    have eg : grounds b l (f + 1) r = if (sweepTo b l l.length r).2 then grounds b l f (sweepTo b l l.length r).1 else some (sweepTo b l l.length r).1 := rfl
    rw [eg]
    by_cases hc : (sweepTo b l l.length r).2 = true
    · rw [if_pos hc]
      by_cases hf : f = 0
      · subst hf
        exact .inr ⟨rfl, none_of_circle hE (fun x hx => mem_sweepList.1 hx) h1 (by omega) (g2.2 hc)⟩
      · exact grounds_best hb hp f (p + 1) _ _ _ _ _ h1.next hm1 (by omega) (by omega)
    · rw [if_neg hc]
      have hc' : c' = -1 := by
        by_cases hq : c' = -1
        · exact hq
        · exact absurd (g2.1 hq) hc
      exact .inl ⟨_, rfl, best_of_settled hE (fun x hx => mem_sweepList.2 hx) h1 hc' hm1.le hm1.ge⟩
theorem greatest_best {b : Blank} {l : List Pt} (hb : b.ok = true) (hp : PtB l) : (∃ r', greatest b l = some r' ∧ Best b l r') ∨ (greatest b l = none ∧ ¬ ∃ r, KeepsE b l r) :=
  grounds_best hb hp (l.length + 2) 0 0 (start b l) (rimEdges b l) _ _ (start_inv b l _) Mid.start (by omega) (by omega)
end Go.Proofs.Ytacmnmcaeflflaa
