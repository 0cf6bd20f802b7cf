/- The lathe's edges and rounds: what is known of them. -/
import Derived.Test.YtacmnmcaeflflaaLaV
namespace Go.Proofs.Ytacmnmcaeflflaa
open Go.Sx

def PtB (l : List Pt) : Prop := ∀ q, q < l.length → (-4194304 ≤ (l.getD q default).inn ∧ (l.getD q default).inn ≤ 4194304) ∧ (-4194304 ≤ (l.getD q default).out ∧ (l.getD q default).out ≤ 4194304)
theorem ptB_of {l : List Pt} (hpt : l.all ptOk = true) : PtB l := by
  intro q hq
  have := List.all_eq_true.1 hpt _ (List.getElem_mem hq)
  simpa [ptOk, betw_iff, List.getD, hq] using this

theorem edgeOf_one {b : Blank} {l : List Pt} {i : Int} (hi : In l.length i) : edgeOf b l 1 i = (⟨1, i, -1, i, b.rim - (l.getD i.toNat default).out⟩, true) := by
  unfold In at hi; unfold edgeOf; rw [if_neg (by omega), if_pos rfl]
theorem edgeOf_two {b : Blank} {l : List Pt} {i : Int} (hi : In l.length i) : edgeOf b l 2 i = (⟨2, i, i, -1, (l.getD i.toNat default).inn - b.core⟩, true) := by
  unfold In at hi; unfold edgeOf; rw [if_neg (by omega), if_neg (by omega), if_pos rfl]
theorem edgeOf_three {b : Blank} {l : List Pt} {i : Int} (hi : In l.length i) : edgeOf b l 3 i = (⟨3, i, i - 1, i, 0 - b.slow⟩, decide (0 < i)) := by
  unfold In at hi; unfold edgeOf; rw [if_neg (by omega), if_neg (by omega), if_neg (by omega), if_pos rfl]
theorem edgeOf_four {b : Blank} {l : List Pt} {i : Int} (hi : In l.length i) : edgeOf b l 4 i = (⟨4, i, i, i - 1, b.fast⟩, decide (0 < i)) := by
  unfold In at hi; unfold edgeOf; rw [if_neg (by omega), if_neg (by omega), if_neg (by omega), if_neg (by omega), if_pos rfl]
theorem edgeOf_five {b : Blank} {l : List Pt} {i : Int} (hi : In l.length i) : edgeOf b l 5 i = if i < b.per then (⟨5, i, i, i, 0⟩, false) else (⟨5, i, i - b.per, i, (l.getD (i - b.per).toNat default).inn - (l.getD i.toNat default).out - b.land⟩, true) := by
  unfold In at hi; unfold edgeOf; rw [if_neg (by omega), if_neg (by omega), if_neg (by omega), if_neg (by omega), if_neg (by omega), if_pos rfl]

/-- x is what rule 3, 4 or 5 says at sample i -/
def IsEdge (b : Blank) (l : List Pt) (x : Edge) : Prop := ∃ rule i, (rule = 3 ∨ rule = 4 ∨ rule = 5) ∧ In l.length i ∧ (edgeOf b l rule i).2 = true ∧ x = (edgeOf b l rule i).1
theorem mem_optE {x : Edge} {e : Edge × Bool} : x ∈ optE e ↔ e.2 = true ∧ x = e.1 := by unfold optE; split <;> simp_all
theorem mem_edgeList {b : Blank} {l : List Pt} {x : Edge} : x ∈ edgeList b l ↔ IsEdge b l x := by
  unfold edgeList IsEdge
  simp only [List.mem_append, List.mem_flatMap, List.mem_range, List.mem_reverse, inward, mem_optE]
  constructor
  · rintro (⟨i, hi, h | h⟩ | ⟨i, hi, h⟩)
    · exact ⟨3, i, .inl rfl, ⟨by omega, by omega⟩, h⟩
    · exact ⟨5, i, .inr (.inr rfl), ⟨by omega, by omega⟩, h⟩
    · exact ⟨4, (i : Int) + 1, .inr (.inl rfl), ⟨by omega, by omega⟩, h⟩
  · rintro ⟨rule, i, hr, hi, h1, h2⟩
    have hi' := hi
    unfold In at hi'
    rcases hr with rfl | rfl | rfl
    · exact .inl ⟨i.toNat, by omega, .inl ⟨by rw [Int.toNat_of_nonneg hi'.1]; exact h1, by rw [Int.toNat_of_nonneg hi'.1]; exact h2⟩⟩
    · have h3 : 0 < i := by rw [edgeOf_four hi] at h1; simpa using h1
      have e : (((i.toNat - 1 : Nat) : Int) + 1) = i := by omega
      exact .inr ⟨i.toNat - 1, by omega, by rw [e]; exact ⟨h1, h2⟩⟩
    · exact .inl ⟨i.toNat, by omega, .inr ⟨by rw [Int.toNat_of_nonneg hi'.1]; exact h1, by rw [Int.toNat_of_nonneg hi'.1]; exact h2⟩⟩

theorem isEdge_facts {b : Blank} {l : List Pt} {x : Edge} (hb : b.ok = true) (hp : PtB l) (h : IsEdge b l x) : In l.length x.frm ∧ In l.length x.to ∧ x.frm ≠ x.to ∧ -16777216 ≤ x.wt ∧ x.wt ≤ 16777216 := by
  rw [Blank.ok_iff] at hb
  obtain ⟨rule, i, hr, hi, h1, rfl⟩ := h
  have hi' := hi
  unfold In at hi' ⊢
  rcases hr with rfl | rfl | rfl
  · rw [edgeOf_three hi] at h1 ⊢; simp only [decide_eq_true_eq] at h1 ⊢; omega
  · rw [edgeOf_four hi] at h1 ⊢; simp only [decide_eq_true_eq] at h1 ⊢; omega
  · rw [edgeOf_five hi] at h1 ⊢
    split at h1
    · cases h1
    · rename_i hc
      rw [if_neg hc]
      have g1 := hp (i - b.per).toNat (by omega)
      have g2 := hp i.toNat (by omega)
      dsimp only; omega
theorem edges_edgeList {b : Blank} {l : List Pt} (hb : b.ok = true) (hp : PtB l) : Edges l.length (edgeList b l) := fun x hx => by
  have := isEdge_facts hb hp (mem_edgeList.1 hx)
  exact ⟨this.1, this.2.1, this.2.2.1⟩
theorem flatMap_len {f : Nat → List Edge} {c : Nat} (h : ∀ i, (f i).length ≤ c) : ∀ l : List Nat, (l.flatMap f).length ≤ c * l.length
  | [] => by simp
  | i :: l => by
    have := flatMap_len h l
    have := h i
    rw [List.flatMap_cons, List.length_append, List.length_cons, Nat.mul_succ]; omega
theorem optE_len (e : Edge × Bool) : (optE e).length ≤ 1 := by unfold optE; split <;> simp
theorem edgeList_len (b : Blank) (l : List Pt) : (edgeList b l).length ≤ 3 * l.length := by
  unfold edgeList
  have h1 := flatMap_len (f := inward b l) (c := 2) (fun i => by unfold inward; rw [List.length_append]; have := optE_len (edgeOf b l 3 i); have := optE_len (edgeOf b l 5 i); omega) (List.range l.length)
  have h2 := flatMap_len (f := fun i : Nat => optE (edgeOf b l 4 ((i : Int) + 1))) (c := 1) (fun i => optE_len _) (List.range (l.length - 1)).reverse
  simp only [List.length_range, List.length_reverse] at h1 h2
  rw [List.length_append]; omega

/-! bounds -/
theorem relax_bd {s : Srch} {x : Edge} {n : Nat} {lo : Int} (hn : s.r.length = n) (h : Bd s.r n lo) (hf : In n x.frm) (ht : In n x.to) (hw : -16777216 ≤ x.wt) : Bd (relax s x).r n (lo - 16777216) := by
  unfold In at hf ht
  by_cases hc : R s x.to ≤ R s x.frm + x.wt
  · rw [relax_no hc]
    intro q hq; have := h q hq; omega
  · rw [relax_yes hc]
    have h1 := h x.to.toNat (by omega)
    have h2 := h x.frm.toNat (by omega)
    exact Bd.set h (by omega) (by unfold R at hc ⊢; omega)
theorem foldl_bd {n : Nat} : ∀ (E : List Edge) (s : Srch) (lo : Int), s.r.length = n → Bd s.r n lo → (∀ x ∈ E, In n x.frm ∧ In n x.to ∧ -16777216 ≤ x.wt) → Bd (E.foldl relax s).r n (lo - 16777216 * E.length)
  | [], s, lo, hn, h, _ => by simpa using h
  | x :: E, s, lo, hn, h, hE => by
    have hx := hE x (List.mem_cons_self ..)
    have := foldl_bd E (relax s x) _ (by rw [relax_rlen, hn]) (relax_bd hn h hx.1 hx.2.1 hx.2.2) (fun y hy => hE y (List.mem_cons_of_mem _ hy))
    rw [List.foldl_cons, List.length_cons]
    intro q hq
    have := this q hq
    push_cast
    omega
theorem round_bd {b : Blank} {l : List Pt} {pre : List Edge} {r : List Int} {last : List Edge} {lo : Int} (hb : b.ok = true) (hp : PtB l) (hr : r.length = l.length) (h : Bd r l.length lo) (hpre : pre <+: edgeList b l) : Bd (pre.foldl relax ⟨r, last, -1⟩).r l.length (lo - 16777216 * (3 * l.length)) := by
  have h1 := foldl_bd (n := l.length) pre ⟨r, last, -1⟩ lo hr h (fun x hx => by
    have := isEdge_facts hb hp (mem_edgeList.1 (hpre.subset hx))
    exact ⟨this.1, this.2.1, this.2.2.2.1⟩)
  have h2 := hpre.length_le
  have h3 := edgeList_len b l
  intro q hq
  have := h1 q hq
  omega

/-! the rounds -/
def r0 (b : Blank) (l : List Pt) (i : Int) : Int := b.rim - (l.getD i.toNat default).out
def e0 (b : Blank) (l : List Pt) (i : Int) : Edge := ⟨1, i, -1, i, r0 b l i⟩
theorem start_R {b : Blank} {l : List Pt} {i : Int} {L : List Edge} {c : Int} (hi : In l.length i) : R ⟨start b l, L, c⟩ i = r0 b l i := by
  unfold In at hi
  have : i.toNat < l.length := by omega
  simp [R, r0, start, List.getD, this]
theorem rim_Lst {b : Blank} {l : List Pt} {i : Int} {L : List Int} {c : Int} (hi : In l.length i) : Lst ⟨L, rimEdges b l, c⟩ i = e0 b l i := by
  have hi' := hi
  unfold In at hi'
  have h : i.toNat < l.length := by omega
  have e : ((i.toNat : Nat) : Int) = i := by omega
  simp only [Lst, rimEdges, List.getD, List.getElem?_map, List.getElem?_range h, Option.map_some, Option.getD_some]
  rw [e, edgeOf_one hi]; rfl
theorem rimEdges_length (b : Blank) (l : List Pt) : (rimEdges b l).length = l.length := by simp [rimEdges]
theorem start_inv (b : Blank) (l : List Pt) (E : List Edge) : Inv l.length E (r0 b l) (e0 b l) ⟨start b l, rimEdges b l, -1⟩ 0 0 [] (fun _ => 0) (fun _ => 0) :=
  ⟨start_length b l, rimEdges_length b l, fun i hi _ => ⟨rim_Lst hi, start_R hi⟩, fun i hi h => by omega, fun i hi => ⟨by omega, by omega⟩, fun x hx => .inr (Nat.zero_le _), fun x hx => (by cases hx), .inl ⟨rfl, fun i hi => Nat.zero_le _⟩⟩

theorem rounds_inv {b : Blank} {l : List Pt} (hE : Edges l.length (edgeList b l)) : ∀ (f : Nat) (p t : Nat) (r : List Int) (last : List Edge) (rho tau : Int → Nat), Inv l.length (edgeList b l) (r0 b l) (e0 b l) ⟨r, last, -1⟩ p t [] rho tau → 0 < f →
    ∃ p' t' rho tau, Inv l.length (edgeList b l) (r0 b l) (e0 b l) (rounds b l f r last) p' t' (edgeList b l) rho tau ∧ ((rounds b l f r last).ch ≠ -1 → p' + 1 = p + f) ∧ t' ≤ t + f * (edgeList b l).length
  | 0, _, _, _, _, _, _, _, h0 => by omega
  | f + 1, p, t, r, last, rho, tau, h, _ => by
    obtain ⟨rho1, tau1, h1⟩ := h.round hE
    have e : (edgeList b l).foldl relax ⟨r, last, -1⟩ = round b l r last := rfl
    rw [e] at h1
    have e2 : rounds b l (f + 1) r last = if (round b l r last).ch = -1 then round b l r last else if f = 0 then round b l r last else rounds b l f (round b l r last).r (round b l r last).last := rfl
    rw [e2, Nat.succ_mul]
    by_cases hc : (round b l r last).ch = -1
    · rw [if_pos hc]; exact ⟨p, _, rho1, tau1, h1, fun h2 => absurd hc h2, by omega⟩
    · rw [if_neg hc]
      by_cases hf : f = 0
      · rw [if_pos hf]; exact ⟨p, _, rho1, tau1, h1, fun _ => by omega, by omega⟩
      · rw [if_neg hf]
        obtain ⟨p', t', rho2, tau2, h2, h3, h4⟩ := rounds_inv hE f (p + 1) _ _ _ _ _ h1.next (by omega)
        exact ⟨p', t', rho2, tau2, h2, fun h5 => by have := h3 h5; omega, by omega⟩
/-- what is known in the end -/
theorem settled_inv {b : Blank} {l : List Pt} (hb : b.ok = true) (hp : PtB l) : ∃ p t rho tau, Inv l.length (edgeList b l) (r0 b l) (e0 b l) (settled b l) p t (edgeList b l) rho tau ∧ ((settled b l).ch ≠ -1 → l.length ≤ p) ∧ t ≤ (l.length + 2) * (3 * l.length) := by
  obtain ⟨p, t, rho, tau, h1, h2, h3⟩ := rounds_inv (edges_edgeList hb hp) (l.length + 2) 0 0 (start b l) (rimEdges b l) _ _ (start_inv b l _) (by omega)
  refine ⟨p, t, rho, tau, h1, fun h => by have := h2 h; omega, ?_⟩
  have := Nat.mul_le_mul_left (l.length + 2) (edgeList_len b l)
  omega
theorem settled_circle {b : Blank} {l : List Pt} (hb : b.ok = true) (hp : PtB l) (hc : (settled b l).ch ≠ -1) :
    (∀ i, In l.length (back (settled b l).last i (settled b l).ch)) ∧ ∃ m, 0 < m ∧ m ≤ l.length ∧ back (settled b l).last m (back (settled b l).last l.length (settled b l).ch) = back (settled b l).last l.length (settled b l).ch := by
  obtain ⟨p, t, rho, tau, h1, h2, h3⟩ := settled_inv hb hp
  obtain ⟨g1, _, g3⟩ := h1.circle (edges_edgeList hb hp) (h2 hc) hc
  exact ⟨g1, g3⟩
/-- m steps back from v the rim is met -/
structure Way (b : Blank) (l : List Pt) (s : Srch) (v : Int) (m : Nat) : Prop where
  pos : 0 < m
  rim : back s.last m v = -1
  ins : ∀ i, i < m → In l.length (back s.last i v)
  mem : ∀ i, i + 1 < m → Lst s (back s.last i v) ∈ edgeList b l
  lst : Lst s (back s.last (m - 1) v) = e0 b l (back s.last (m - 1) v)
  sum : wsum s.last v m ≤ R s v
  to : ∀ i, i + 1 < m → (Lst s (back s.last i v)).to = back s.last i v
theorem settled_way {b : Blank} {l : List Pt} (hb : b.ok = true) (hp : PtB l) (hl : l.length ≤ 4096) (hc : (settled b l).ch = -1) {v : Int} (hv : In l.length v) :
    ∃ m, m ≤ 67108864 ∧ Way b l (settled b l) v m := by
  obtain ⟨p, t, rho, tau, h1, h2, h3⟩ := settled_inv hb hp
  obtain ⟨m, hm, hm0, g⟩ := h1.way (edges_edgeList hb hp) (h1.settled (edges_edgeList hb hp) hc) (fun i => rfl) (fun i => rfl) (tau v) v hv (Nat.le_refl _)
  have h4 := (h1.top v hv).2
  have h5 : (l.length + 2) * (3 * l.length) ≤ 4098 * 12288 := Nat.mul_le_mul (by omega) (by omega)
  exact ⟨m, by omega, hm0, g.1, g.2.1, g.2.2.1, g.2.2.2.1, g.2.2.2.2.1, g.2.2.2.2.2⟩
theorem settled_len {b : Blank} {l : List Pt} (hb : b.ok = true) (hp : PtB l) : (settled b l).r.length = l.length ∧ (settled b l).last.length = l.length := by
  obtain ⟨p, t, rho, tau, h1, _, _⟩ := settled_inv hb hp
  exact ⟨h1.rl, h1.ll⟩
theorem round_len (b : Blank) (l : List Pt) (r : List Int) (last : List Edge) : (round b l r last).r.length = r.length ∧ (round b l r last).last.length = last.length := ⟨foldl_rlen _ _, foldl_llen _ _⟩
theorem rounds_stop {b : Blank} {l : List Pt} {f : Nat} {r : List Int} {last : List Edge} (h : (round b l r last).ch = -1) : rounds b l (f + 1) r last = round b l r last := if_pos h
theorem rounds_last {b : Blank} {l : List Pt} {r : List Int} {last : List Edge} : rounds b l 1 r last = round b l r last := by
  show (if (round b l r last).ch = -1 then round b l r last else if (0 : Nat) = 0 then round b l r last else _) = _
  split <;> simp
theorem rounds_go {b : Blank} {l : List Pt} {f : Nat} {r : List Int} {last : List Edge} (h : (round b l r last).ch ≠ -1) (hf : f ≠ 0) : rounds b l (f + 1) r last = rounds b l f (round b l r last).r (round b l r last).last := by
  show (if (round b l r last).ch = -1 then round b l r last else if f = 0 then round b l r last else _) = _
  rw [if_neg h, if_neg hf]
end Go.Proofs.Ytacmnmcaeflflaa
