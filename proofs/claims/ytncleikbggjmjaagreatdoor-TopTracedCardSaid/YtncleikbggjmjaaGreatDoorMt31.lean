/- Texts of this proof, one behind the other: LaU, La6, LaW, LaX, LaY, LaK. -/
import Derived.Test.YtncleikbggjmjaaGreatDoorMt0
import Derived.Test.YtncleikbggjmjaaGreatDoorMt30
/- The lathe's edges and rounds: what is known of them. -/
namespace Go.Proofs.YtncleikbggjmjaaGreatDoor.Lathe
open Go.Sx
def PtB (l : List Pt) : Prop := ∀ q, q < l.length → (-4194304 ≤ (l.getD q default).inn ∧ (l.getD q default).inn ≤ 4194304) ∧ (-4194304 ≤ (l.getD q default).out ∧ (l.getD q default).out ≤ 4194304)
theorem ptB_of {l : List Pt} (hpt : l.all ptOk = true) : PtB l := by
  intro q hq
  have := List.all_eq_true.1 hpt _ (List.getElem_mem hq)
  simpa [ptOk, betw_iff, List.getD, hq] using this
theorem edgeOf_one {b : Blank} {l : List Pt} {i : Int} (hi : In l.length i) : edgeOf b l 1 i = (⟨1, i, -1, i, b.rim - (l.getD i.toNat default).out⟩, true) := by
  unfold In at hi; unfold edgeOf; rw [if_neg (by omega), if_pos rfl]
theorem edgeOf_two {b : Blank} {l : List Pt} {i : Int} (hi : In l.length i) : edgeOf b l 2 i = (⟨2, i, i, -1, (l.getD i.toNat default).inn - b.core⟩, true) := by
  unfold In at hi; unfold edgeOf; rw [if_neg (by omega), if_neg (by omega), if_pos rfl]
theorem edgeOf_three {b : Blank} {l : List Pt} {i : Int} (hi : In l.length i) : edgeOf b l 3 i = (⟨3, i, i - 1, i, 0 - b.slow⟩, decide (0 < i)) := by
  unfold In at hi; unfold edgeOf; rw [if_neg (by omega), if_neg (by omega), if_neg (by omega), if_pos rfl]
theorem edgeOf_four {b : Blank} {l : List Pt} {i : Int} (hi : In l.length i) : edgeOf b l 4 i = (⟨4, i, i, i - 1, b.fast⟩, decide (0 < i)) := by
  unfold In at hi; unfold edgeOf; rw [if_neg (by omega), if_neg (by omega), if_neg (by omega), if_neg (by omega), if_pos rfl]
theorem edgeOf_five {b : Blank} {l : List Pt} {i : Int} (hi : In l.length i) : edgeOf b l 5 i = if i < b.per then (⟨5, i, i, i, 0⟩, false) else (⟨5, i, i - b.per, i, (l.getD (i - b.per).toNat default).inn - (l.getD i.toNat default).out - b.land⟩, true) := by
  unfold In at hi; unfold edgeOf; rw [if_neg (by omega), if_neg (by omega), if_neg (by omega), if_neg (by omega), if_neg (by omega), if_pos rfl]
def IsEdge (b : Blank) (l : List Pt) (x : Edge) : Prop := ∃ rule i, (rule = 3 ∨ rule = 4 ∨ rule = 5) ∧ In l.length i ∧ (edgeOf b l rule i).2 = true ∧ x = (edgeOf b l rule i).1
theorem mem_optE {x : Edge} {e : Edge × Bool} : x ∈ optE e ↔ e.2 = true ∧ x = e.1 := by unfold optE; split <;> simp_all
theorem mem_edgeList {b : Blank} {l : List Pt} {x : Edge} : x ∈ edgeList b l ↔ IsEdge b l x := by
  unfold edgeList IsEdge
  simp only [List.mem_append, List.mem_flatMap, List.mem_range, List.mem_reverse, inward, mem_optE]
  constructor
  · rintro (⟨i, hi, h | h⟩ | ⟨i, hi, h⟩)
    · exact ⟨3, i, .inl rfl, ⟨by omega, by omega⟩, h⟩
    · exact ⟨5, i, .inr (.inr rfl), ⟨by omega, by omega⟩, h⟩
    · exact ⟨4, (i : Int) + 1, .inr (.inl rfl), ⟨by omega, by omega⟩, h⟩
  · rintro ⟨rule, i, hr, hi, h1, h2⟩
    have hi' := hi
    unfold In at hi'
    rcases hr with rfl | rfl | rfl
    · exact .inl ⟨i.toNat, by omega, .inl ⟨by rw [Int.toNat_of_nonneg hi'.1]; exact h1, by rw [Int.toNat_of_nonneg hi'.1]; exact h2⟩⟩
    · have h3 : 0 < i := by rw [edgeOf_four hi] at h1; simpa using h1
      have e : (((i.toNat - 1 : Nat) : Int) + 1) = i := by omega
      exact .inr ⟨i.toNat - 1, by omega, by rw [e]; exact ⟨h1, h2⟩⟩
    · exact .inl ⟨i.toNat, by omega, .inr ⟨by rw [Int.toNat_of_nonneg hi'.1]; exact h1, by rw [Int.toNat_of_nonneg hi'.1]; exact h2⟩⟩
theorem isEdge_facts {b : Blank} {l : List Pt} {x : Edge} (hb : b.ok = true) (hp : PtB l) (h : IsEdge b l x) : In l.length x.frm ∧ In l.length x.to ∧ x.frm ≠ x.to ∧ -16777216 ≤ x.wt ∧ x.wt ≤ 16777216 := by
  rw [Blank.ok_iff] at hb
  obtain ⟨rule, i, hr, hi, h1, rfl⟩ := h
  have hi' := hi
  unfold In at hi' ⊢
  rcases hr with rfl | rfl | rfl
  · rw [edgeOf_three hi] at h1 ⊢; simp only [decide_eq_true_eq] at h1 ⊢; omega
  · rw [edgeOf_four hi] at h1 ⊢; simp only [decide_eq_true_eq] at h1 ⊢; omega
  · rw [edgeOf_five hi] at h1 ⊢
    split at h1
    · cases h1
    · rename_i hc
      rw [if_neg hc]
      have g1 := hp (i - b.per).toNat (by omega)
      have g2 := hp i.toNat (by omega)
      dsimp only; omega
theorem edges_edgeList {b : Blank} {l : List Pt} (hb : b.ok = true) (hp : PtB l) : Edges l.length (edgeList b l) := fun x hx => by
  have := isEdge_facts hb hp (mem_edgeList.1 hx)
  exact ⟨this.1, this.2.1, this.2.2.1⟩
theorem flatMap_len {f : Nat → List Edge} {c : Nat} (h : ∀ i, (f i).length ≤ c) : ∀ l : List Nat, (l.flatMap f).length ≤ c * l.length
  | [] => by simp
  | i :: l => by
    have := flatMap_len h l
    have := h i
    rw [List.flatMap_cons, List.length_append, List.length_cons, Nat.mul_succ]; omega
theorem optE_len (e : Edge × Bool) : (optE e).length ≤ 1 := by unfold optE; split <;> simp
theorem edgeList_len (b : Blank) (l : List Pt) : (edgeList b l).length ≤ 3 * l.length := by
  unfold edgeList
  have h1 := flatMap_len (f := inward b l) (c := 2) (fun i => by unfold inward; rw [List.length_append]; have := optE_len (edgeOf b l 3 i); have := optE_len (edgeOf b l 5 i); omega) (List.range l.length)
  have h2 := flatMap_len (f := fun i : Nat => optE (edgeOf b l 4 ((i : Int) + 1))) (c := 1) (fun i => optE_len _) (List.range (l.length - 1)).reverse
  simp only [List.length_range, List.length_reverse] at h1 h2
  rw [List.length_append]; omega
/-! bounds -/
theorem relax_bd {s : Srch} {x : Edge} {n : Nat} {lo : Int} (hn : s.r.length = n) (h : Bd s.r n lo) (hf : In n x.frm) (ht : In n x.to) (hw : -16777216 ≤ x.wt) : Bd (relax s x).r n (lo - 16777216) := by
  unfold In at hf ht
  by_cases hc : R s x.to ≤ R s x.frm + x.wt
  · rw [relax_no hc]
    intro q hq; have := h q hq; omega
  · rw [relax_yes hc]
    have h1 := h x.to.toNat (by omega)
    have h2 := h x.frm.toNat (by omega)
    exact Bd.set h (by omega) (by unfold R at hc ⊢; omega)
theorem foldl_bd {n : Nat} : ∀ (E : List Edge) (s : Srch) (lo : Int), s.r.length = n → Bd s.r n lo → (∀ x ∈ E, In n x.frm ∧ In n x.to ∧ -16777216 ≤ x.wt) → Bd (E.foldl relax s).r n (lo - 16777216 * E.length)
  | [], s, lo, hn, h, _ => by simpa using h
  | x :: E, s, lo, hn, h, hE => by
    have hx := hE x (List.mem_cons_self ..)
    have := foldl_bd E (relax s x) _ (by rw [relax_rlen, hn]) (relax_bd hn h hx.1 hx.2.1 hx.2.2) (fun y hy => hE y (List.mem_cons_of_mem _ hy))
    rw [List.foldl_cons, List.length_cons]
    intro q hq
    have := this q hq
    push_cast
    omega
theorem round_bd {b : Blank} {l : List Pt} {pre : List Edge} {r : List Int} {last : List Edge} {lo : Int} (hb : b.ok = true) (hp : PtB l) (hr : r.length = l.length) (h : Bd r l.length lo) (hpre : pre <+: edgeList b l) : Bd (pre.foldl relax ⟨r, last, -1⟩).r l.length (lo - 16777216 * (3 * l.length)) := by
  have h1 := foldl_bd (n := l.length) pre ⟨r, last, -1⟩ lo hr h (fun x hx => by
    have := isEdge_facts hb hp (mem_edgeList.1 (hpre.subset hx))
    exact ⟨this.1, this.2.1, this.2.2.2.1⟩)
  have h2 := hpre.length_le
  have h3 := edgeList_len b l
  intro q hq
  have := h1 q hq
  omega
/-! the rounds -/
def r0 (b : Blank) (l : List Pt) (i : Int) : Int := b.rim - (l.getD i.toNat default).out
def e0 (b : Blank) (l : List Pt) (i : Int) : Edge := ⟨1, i, -1, i, r0 b l i⟩
theorem start_R {b : Blank} {l : List Pt} {i : Int} {L : List Edge} {c : Int} (hi : In l.length i) : R ⟨start b l, L, c⟩ i = r0 b l i := by
  unfold In at hi
  have : i.toNat < l.length := by omega
  simp [R, r0, start, List.getD, this]
theorem rim_Lst {b : Blank} {l : List Pt} {i : Int} {L : List Int} {c : Int} (hi : In l.length i) : Lst ⟨L, rimEdges b l, c⟩ i = e0 b l i := by
  have hi' := hi
  unfold In at hi'
  have h : i.toNat < l.length := by omega
  have e : ((i.toNat : Nat) : Int) = i := by omega
  simp only [Lst, rimEdges, List.getD, List.getElem?_map, List.getElem?_range h, Option.map_some, Option.getD_some]
  rw [e, edgeOf_one hi]; rfl
theorem rimEdges_length (b : Blank) (l : List Pt) : (rimEdges b l).length = l.length := by simp [rimEdges]
theorem start_inv (b : Blank) (l : List Pt) (E : List Edge) : Inv l.length E (r0 b l) (e0 b l) ⟨start b l, rimEdges b l, -1⟩ 0 0 [] (fun _ => 0) (fun _ => 0) :=
  ⟨start_length b l, rimEdges_length b l, fun i hi _ => ⟨rim_Lst hi, start_R hi⟩, fun i hi h => by omega, fun i hi => ⟨by omega, by omega⟩, fun x hx => .inr (Nat.zero_le _), fun x hx => (by cases hx), .inl ⟨rfl, fun i hi => Nat.zero_le _⟩⟩
theorem rounds_inv {b : Blank} {l : List Pt} (hE : Edges l.length (edgeList b l)) : ∀ (f : Nat) (p t : Nat) (r : List Int) (last : List Edge) (rho tau : Int → Nat), Inv l.length (edgeList b l) (r0 b l) (e0 b l) ⟨r, last, -1⟩ p t [] rho tau → 0 < f →
    ∃ p' t' rho tau, Inv l.length (edgeList b l) (r0 b l) (e0 b l) (rounds b l f r last) p' t' (edgeList b l) rho tau ∧ ((rounds b l f r last).ch ≠ -1 → p' + 1 = p + f) ∧ t' ≤ t + f * (edgeList b l).length
  | 0, _, _, _, _, _, _, _, h0 => by omega
  | f + 1, p, t, r, last, rho, tau, h, _ => by
    obtain ⟨rho1, tau1, h1⟩ := h.round hE
    have e : (edgeList b l).foldl relax ⟨r, last, -1⟩ = round b l r last := rfl
    rw [e] at h1
    have e2 : rounds b l (f + 1) r last = if (round b l r last).ch = -1 then round b l r last else if f = 0 then round b l r last else rounds b l f (round b l r last).r (round b l r last).last := rfl
    rw [e2, Nat.succ_mul]
    by_cases hc : (round b l r last).ch = -1
    · rw [if_pos hc]; exact ⟨p, _, rho1, tau1, h1, fun h2 => absurd hc h2, by omega⟩
    · rw [if_neg hc]
      by_cases hf : f = 0
      · rw [if_pos hf]; exact ⟨p, _, rho1, tau1, h1, fun _ => by omega, by omega⟩
      · rw [if_neg hf]
        obtain ⟨p', t', rho2, tau2, h2, h3, h4⟩ := rounds_inv hE f (p + 1) _ _ _ _ _ h1.next (by omega)
        exact ⟨p', t', rho2, tau2, h2, fun h5 => by have := h3 h5; omega, by omega⟩
theorem settled_inv {b : Blank} {l : List Pt} (hb : b.ok = true) (hp : PtB l) : ∃ p t rho tau, Inv l.length (edgeList b l) (r0 b l) (e0 b l) (settled b l) p t (edgeList b l) rho tau ∧ ((settled b l).ch ≠ -1 → l.length ≤ p) ∧ t ≤ (l.length + 2) * (3 * l.length) := by
  obtain ⟨p, t, rho, tau, h1, h2, h3⟩ := rounds_inv (edges_edgeList hb hp) (l.length + 2) 0 0 (start b l) (rimEdges b l) _ _ (start_inv b l _) (by omega)
  refine ⟨p, t, rho, tau, h1, fun h => by have := h2 h; omega, ?_⟩
  have := Nat.mul_le_mul_left (l.length + 2) (edgeList_len b l)
  omega
theorem settled_circle {b : Blank} {l : List Pt} (hb : b.ok = true) (hp : PtB l) (hc : (settled b l).ch ≠ -1) :
    (∀ i, In l.length (back (settled b l).last i (settled b l).ch)) ∧ ∃ m, 0 < m ∧ m ≤ l.length ∧ back (settled b l).last m (back (settled b l).last l.length (settled b l).ch) = back (settled b l).last l.length (settled b l).ch := by
  obtain ⟨p, t, rho, tau, h1, h2, h3⟩ := settled_inv hb hp
  obtain ⟨g1, _, g3⟩ := h1.circle (edges_edgeList hb hp) (h2 hc) hc
  exact ⟨g1, g3⟩
structure Way (b : Blank) (l : List Pt) (s : Srch) (v : Int) (m : Nat) : Prop where
  pos : 0 < m
  rim : back s.last m v = -1
  ins : ∀ i, i < m → In l.length (back s.last i v)
  mem : ∀ i, i + 1 < m → Lst s (back s.last i v) ∈ edgeList b l
  lst : Lst s (back s.last (m - 1) v) = e0 b l (back s.last (m - 1) v)
  sum : wsum s.last v m ≤ R s v
  to : ∀ i, i + 1 < m → (Lst s (back s.last i v)).to = back s.last i v
theorem settled_way {b : Blank} {l : List Pt} (hb : b.ok = true) (hp : PtB l) (hl : l.length ≤ 4096) (hc : (settled b l).ch = -1) {v : Int} (hv : In l.length v) :
    ∃ m, m ≤ 67108864 ∧ Way b l (settled b l) v m := by
  obtain ⟨p, t, rho, tau, h1, h2, h3⟩ := settled_inv hb hp
  obtain ⟨m, hm, hm0, g⟩ := h1.way (edges_edgeList hb hp) (h1.settled (edges_edgeList hb hp) hc) (fun i => rfl) (fun i => rfl) (tau v) v hv (Nat.le_refl _)
  have h4 := (h1.top v hv).2
  have h5 : (l.length + 2) * (3 * l.length) ≤ 4098 * 12288 := Nat.mul_le_mul (by omega) (by omega)
  exact ⟨m, by omega, hm0, g.1, g.2.1, g.2.2.1, g.2.2.2.1, g.2.2.2.2.1, g.2.2.2.2.2⟩
theorem round_len (b : Blank) (l : List Pt) (r : List Int) (last : List Edge) : (round b l r last).r.length = r.length ∧ (round b l r last).last.length = last.length := ⟨foldl_rlen _ _, foldl_llen _ _⟩
theorem rounds_stop {b : Blank} {l : List Pt} {f : Nat} {r : List Int} {last : List Edge} (h : (round b l r last).ch = -1) : rounds b l (f + 1) r last = round b l r last := if_pos h
theorem rounds_last {b : Blank} {l : List Pt} {r : List Int} {last : List Edge} : rounds b l 1 r last = round b l r last := by
  show (if (round b l r last).ch = -1 then round b l r last else if (0 : Nat) = 0 then round b l r last else _) = _
  split <;> simp
theorem rounds_go {b : Blank} {l : List Pt} {f : Nat} {r : List Int} {last : List Edge} (h : (round b l r last).ch ≠ -1) (hf : f ≠ 0) : rounds b l (f + 1) r last = rounds b l f (round b l r last).r (round b l r last).last := by
  show (if (round b l r last).ch = -1 then round b l r last else if f = 0 then round b l r last else _) = _
  rw [if_neg h, if_neg hf]
end Go.Proofs.YtncleikbggjmjaaGreatDoor.Lathe
/- lathe: the search, walked -/
namespace Go.Proofs.YtncleikbggjmjaaGreatDoor.Lathe
open Go.Sx Go.Proofs
def Search (b : Blank) (l : List Pt) (rad : List Int) (st : List Stp) : Prop :=
  ((settled b l).ch ≠ -1 ∧ rad = [] ∧ ∃ m, Circ (settled b l).last (back (settled b l).last l.length (settled b l).ch) m ∧ st = (csteps (settled b l).last (back (settled b l).last l.length (settled b l).ch) m).reverse) ∨
  ((settled b l).ch = -1 ∧ rad = [] ∧ ∃ i : Nat, i < l.length ∧ (settled b l).r.getD i default + (edgeOf b l 2 i).1.wt < 0 ∧ ∃ m, Way b l (settled b l) i m ∧ st = (wsteps (settled b l).last (edgeOf b l 2 i).1 m).reverse) ∨
  ((settled b l).ch = -1 ∧ rad = (settled b l).r ∧ st = [] ∧ ∀ i : Nat, i < l.length → 0 ≤ (settled b l).r.getD i default + (edgeOf b l 2 i).1.wt)
theorem start_of {b : Blank} {l : List Pt} {r : List Int} (hr : r.length = l.length) (h : ∀ q, q < l.length → r.getD q default = b.rim - (l.getD q default).out) : r = start b l := by
  apply list_ext_getD (by rw [hr, start_length])
  intro q hq
  rw [hr] at hq
  rw [h q hq]; simp [start, List.getD, hq]
theorem rim_of {b : Blank} {l : List Pt} {r : List Edge} (hr : r.length = l.length) (h : ∀ q : Nat, q < l.length → r.getD q default = (edgeOf b l 1 q).1) : r = rimEdges b l := by
  apply list_ext_getD (by rw [hr, rimEdges_length])
  intro q hq
  rw [hr] at hq
  rw [h q hq]; simp [rimEdges, List.getD, hq]
theorem start_bd {b : Blank} {l : List Pt} (hb : b.ok = true) (hp : PtB l) : Bd (start b l) l.length (-16777216) := by
  rw [Blank.ok_iff] at hb
  intro q hq
  have := hp q hq
  simp only [start, List.getD, List.getElem?_map, List.getElem?_eq_getElem hq, Option.map_some, Option.getD_some] at this ⊢; omega
theorem j4 (a b c d : Nat × Obj) (I1 I2 G : Items) : (a :: b :: c :: d :: (I1 ++ I2)) ++ G = a :: b :: c :: d :: (I1 ++ (I2 ++ G)) := by simp
set_option maxRecDepth 10000 in
set_option maxHeartbeats 2000000 in
theorem C_lathe_search {b : Blank} {A : Option Addr} {l : List Pt} {c bs : Nat} {w : World} (hs : SideAt w bs b A l c) (hp : RdL w 2 ePt A l) (hb : b.ok = true) (hl : l.length ≤ 4096) (hpt : l.all ptOk = true) :
    Con Tryz.prog 86 [ptr bs 0] w (fun y : List Int × List Stp × (Option Addr × Nat × Items) × (Option Addr × Nat × Items) => Search b l y.1 y.2.1 ∧ Own 1 2 eI y.1 (.slice y.2.2.1.1 y.1.length y.2.2.1.2.1) y.2.2.1.2.2 ∧ Own 2 233 eStp y.2.1 (.slice y.2.2.2.1 y.2.1.length y.2.2.2.2.1) y.2.2.2.2.2)
      (fun y => .agg #[.slice y.2.2.1.1 y.1.length y.2.2.1.2.1, .slice y.2.2.2.1 y.2.1.length y.2.2.2.2.1]) (fun y => y.2.2.1.2.2 ++ y.2.2.2.2.2) := by
  have hpb := ptB_of hpt
  refine Ret_of (vs := [_]) hm none' Tryz.func86 rfl Tryz.ntmps86 rfl ?_
  dsimp only [slotsOf]
  refine Zp 1 [0] rfl ?_;refine Zb rfl zc_187 fun b2 => ?_;refine GT_nil ?_;refine Zp 6 [] rfl ?_;refine Zr 2 rfl ?_;refine Zf rfl fo_230_1 ?_;refine ZL rfl ag_109 (CellAt.old (hs.cell rfl) (noM _)) ?_;refine Zn rfl Tryz.underlying109 ?_;refine Zv rfl ?_;refine GT_nil ?_;refine GE_cut (ι := Nat × Nat × Nat × Nat × Nat) (fun x => [(0, ptr bs 0), (2, ptr x.1 0), (3, I l.length), (4, ptr x.2.1 0), (5, ptr x.2.2.1 0)]) (fun x => [(x.2.2.2.1, blk ((List.replicate l.length [I 0]).flatten) 2), (x.2.2.2.2, blk ((List.replicate l.length [I 0, I 0, I 0, I 0, I 0]).flatten) 235), (x.2.1, blk [.slice (some ⟨x.2.2.2.1, 0, none⟩) l.length l.length] 43), (x.2.2.1, blk [.slice (some ⟨x.2.2.2.2, 0, none⟩) l.length l.length] 231), (x.1, blk [.slice none 0 0, .slice none 0 0] 187)]) (fun x => True) ?_ (fun hk => ?_)
  · rintro ⟨b2, b4, b5, br, bl⟩ -; dsimp only
    refine GE_seq ?_;refine Zp 2 [] rfl ?_;refine Zr 2 rfl ?_;refine GT_nil ?_;refine GE_block ?_;refine GE_to (GE_loop (ι := Nat × List Int × List Edge × Items × Items) (fun x => l.length - x.1) (fun x => [(0, ptr bs 0), (2, ptr b2 0), (3, I l.length), (4, ptr b4 0), (5, ptr b5 0), (22, I l.length), (23, I x.1)]) (fun x => x.2.2.2.1 ++ (x.2.2.2.2 ++ [(b4, blk [.slice (some ⟨br, 0, none⟩) l.length l.length] 43), (b5, blk [.slice (some ⟨bl, 0, none⟩) l.length l.length] 231), (b2, blk [.slice none 0 0, .slice none 0 0] 187)])) (fun x => x.1 ≤ l.length ∧ x.2.1.length = l.length ∧ x.2.2.1.length = l.length ∧ (∀ q, q < x.1 → x.2.1.getD q default = b.rim - (l.getD q default).out) ∧ (∀ q : Nat, q < x.1 → x.2.2.1.getD q default = (edgeOf b l 1 q).1) ∧ Own 1 2 eI x.2.1 (.slice (some ⟨br, 0, none⟩) l.length l.length) x.2.2.2.1 ∧ Own 5 235 eEdge x.2.2.1 (.slice (some ⟨bl, 0, none⟩) l.length l.length) x.2.2.2.2) ?_ (0, List.replicate l.length 0, List.replicate l.length ⟨0, 0, 0, 0, 0⟩, [(br, blk ((List.replicate l.length [I 0]).flatten) 2)], [(bl, blk ((List.replicate l.length [I 0, I 0, I 0, I 0, I 0]).flatten) 235)]) ?_) ⟨rfl, rfl, rfl, rfl, rfl, rfl, rfl, trivial⟩ (show HS _ _ ([(br, blk ((List.replicate l.length [I 0]).flatten) 2)] ++ ([(bl, blk ((List.replicate l.length [I 0, I 0, I 0, I 0, I 0]).flatten) 235)] ++ [(b4, blk [.slice (some ⟨br, 0, none⟩) l.length l.length] 43), (b5, blk [.slice (some ⟨bl, 0, none⟩) l.length l.length] 231), (b2, blk [.slice none 0 0, .slice none 0 0] 187)])) from HS.cons rfl (HS.cons rfl (HS.cons rfl (HS.cons rfl (HS.cons rfl HS.nil)))))
    · rintro ⟨k, r, last, Ir, Il⟩ ⟨hk, hrl, hll, hrq, hlq, hOr, hOl⟩ ih; dsimp only at hk hrl hll hrq hlq hOr hOl ih ⊢
      refine Zp 1 [] rfl ?_;refine GT_S rfl (V_lss rfl rfl rfl) ?_;refine Zz ?_;refine GE_cond rfl (fun h1 => ?_) (fun h1 => ?_)
      · have hkl : k < l.length := (by omega)
        refine GE_skip ?_;refine GE_seq ?_;refine GE_block ?_;refine Zp 2 [] rfl ?_;refine Zr 2 rfl ?_;refine Zz ?_;refine GE_drawn (.st 0 (.st 1 (.st 2 (.st 3 (.ld 4 [0, 1] (.st 5 (.st 6 (.st 7 (.st 8 (.ld 9 [7] .nil)))))))))) [4, 9] (by decide +kernel) ?_;refine Zl rfl ag_231 rfl ?_;refine Zr 3 rfl ?_;refine Zc rfl rn_104 (fun w hw => C_lathe_edge (hs.sh hw) (hp.sh hw) hb hl hpt) (Rl rfl ag_231 rfl rfl (Rv rfl rfl GR_nil)) ?_;refine Zr 3 rfl ?_;refine GT_S rfl (V_index rfl rfl rfl Tryz.underlying231 sz_235 (k := k) rfl (by omega) (hOl.isSome (k := k) (by omega))) ?_;refine GT_storeOwn (enc := eEdge) (q := k) (xx := (edgeOf b l 1 k).1) rfl rfl rfl rfl rfl rfl rfl sz_235 hOl eEdge_len eEdge_one (by omega) (by decide) (fun _ _ => Rv rfl rfl GR_nil) (fun I1 hO1 => ?_);refine GT_nil ?_;refine Zs [0, 2, 3, 4, 5, 6, 22, 23] rfl ?_;refine GE_drawn (.st 0 (.st 1 (.st 2 (.st 3 (.st 4 (.st 5 (.st 6 (.st 7 (.ld 8 [] .nil))))))))) [8] (by decide +kernel) ?_;refine Zl rfl ag_43 rfl ?_;refine Zv rfl ?_;refine Zl rfl ag_231 rfl ?_;refine Zv rfl ?_;refine GT_S rfl (V_index rfl rfl rfl Tryz.underlying231 sz_235 (k := k) rfl (by omega) (hOl.isSome (k := k) (by omega))) ?_;refine GT_S rfl (V_fieldA rfl rfl fo_235_3) ?_;refine ZL rfl ag_2 (CellAt.own hO1 eEdge_len (by simp; omega) rfl) ?_;refine GT_S rfl (V_index rfl rfl rfl Tryz.underlying43 sz_2 (k := k) rfl (by omega) (hOr.isSome (k := k) (by omega))) ?_;refine GT_storeOwn (enc := eI) (q := k) (xx := ((last.set k (edgeOf b l 1 k).1).getD k default).wt) rfl rfl rfl rfl rfl rfl rfl sz_2 hOr eI_len eI_one (by omega) (by decide) (fun _ _ => GR_nil) (fun I2 hO2 => ?_);refine GT_nil ?_;refine GE_inBlock ?_;refine Zs [0, 2, 3, 4, 5, 22, 23] rfl ?_;refine ZP 2 [1] rfl ?_;refine Za rfl (by omega) ?_;refine Zw rfl ?_;refine GT_nil ?_;refine GE_to (ih (k + 1, _, _, I2, I1) ⟨by dsimp only; omega, ?_, ?_, ?_, ?_, hO2, hO1⟩ (by dsimp only; omega)) ⟨rfl, rfl, rfl, rfl, rfl, rfl, rfl, trivial⟩ (HS.chunk (HS.chunk (HS.cons rfl (HS.cons rfl (HS.cons rfl HS.nil)))))
        · simpa using hrl
        · simpa using hll
        · intro q hq
          dsimp only at hq ⊢
          rw [getD_set (by omega)]
          split
          · rename_i e; subst e; rw [getD_set (by omega), if_pos rfl, edgeOf_one ⟨by omega, by omega⟩]; simp
          · exact hrq q (by omega)
        · intro q hq
          dsimp only at hq ⊢
          rw [getD_set (by omega)]
          split
          · rename_i e; subst e; rfl
          · exact hlq q (by omega)
      · obtain rfl : k = l.length := (by omega); obtain rfl := start_of hrl hrq; obtain rfl := rim_of hll hlq; have hbd0 := start_bd hb hpb
        refine GE_exit rfl ?_;refine GE_seq ?_;refine Zp 1 [] rfl ?_;refine Zv rfl ?_;refine GT_nil ?_;refine GE_block ?_;refine GE_to (GE_loopD (ι := Nat × List Int × List Edge × Items × Items × List Nat) (fun x => l.length + 2 - x.1) (fun x => [(0, ptr bs 0), (2, ptr b2 0), (3, I l.length), (4, ptr b4 0), (5, ptr b5 0), (7, I x.1)]) (fun x => dq x.2.2.2.2.2) (fun x => x.2.2.2.1 ++ (x.2.2.2.2.1 ++ (iq x.2.2.2.2.2 ++ [(b4, blk [.slice (some ⟨br, 0, none⟩) l.length l.length] 43), (b5, blk [.slice (some ⟨bl, 0, none⟩) l.length l.length] 231), (b2, blk [.slice none 0 0, .slice none 0 0] 187)]))) (fun x => x.1 ≤ l.length + 1 ∧ x.2.1.length = l.length ∧ x.2.2.1.length = l.length ∧ Bd x.2.1 l.length (-16777216 - 16777216 * (12288 * (x.1 : Int))) ∧ Own 1 2 eI x.2.1 (.slice (some ⟨br, 0, none⟩) l.length l.length) x.2.2.2.1 ∧ Own 5 235 eEdge x.2.2.1 (.slice (some ⟨bl, 0, none⟩) l.length l.length) x.2.2.2.2.1 ∧ rounds b l (l.length + 2 - x.1) x.2.1 x.2.2.1 = settled b l) ?_ (0, start b l, rimEdges b l, Ir, Il, []) ?_) ⟨rfl, rfl, rfl, rfl, rfl, rfl, trivial⟩ (HS.chunk (HS.chunk (HS.chunk (HS.cons rfl (HS.cons rfl (HS.cons rfl HS.nil))))))
        · rintro ⟨k, r, last, Ir, Il, qs⟩ ⟨hk, hrl, hll, hbd, hOr, hOl, hset⟩ ih; dsimp only at hk hrl hll hbd hOr hOl hset ih ⊢
          refine GE_seq ?_;refine GE_block ?_;refine GE_scope ?_;refine Zp 2 [0, 1] rfl ?_;refine Zb rfl zc_3 fun b8 => ?_;refine ZS [_] [_] rfl rfl sz_3 rfl rfl rfl ?_;refine Zz ?_;refine GE_label ?_;refine GE_seq ?_;refine Zp 2 [1] rfl ?_;refine Zv rfl ?_;refine ZC rfl rn_105 (fun w hw => C_lathe_edges) (fun _ _ => GR_nil) (fun bb _ => ?_);refine GT_nil ?_;refine GE_block ?_;refine GE_range rfl rfl rn_125 (fun T l5 q r0 hr0 hT hlk w hw => ?_);refine (C_edges1 (c := c) (lp := l5) (J := (l5, .loop r0) :: (b8, blk [I (-1)] 3) :: (b4, blk [.slice (some ⟨br, 0, none⟩) l.length l.length] 43) :: (b5, blk [.slice (some ⟨bl, 0, none⟩) l.length l.length] 231) :: (Ir ++ Il)) (G := (q, .deferred (some [])) :: (iq qs ++ [(b2, blk [.slice none 0 0, .slice none 0 0] 187)]))
            (Q := fun pre J => ∃ Ir Il, Own 1 2 eI (pre.foldl relax ⟨r, last, -1⟩).r (.slice (some ⟨br, 0, none⟩) l.length l.length) Ir ∧ Own 5 235 eEdge (pre.foldl relax ⟨r, last, -1⟩).last (.slice (some ⟨bl, 0, none⟩) l.length l.length) Il ∧ J = (l5, .loop r0) :: (b8, blk [I (pre.foldl relax ⟨r, last, -1⟩).ch] 3) :: (b4, blk [.slice (some ⟨br, 0, none⟩) l.length l.length] 43) :: (b5, blk [.slice (some ⟨bl, 0, none⟩) l.length l.length] 231) :: (Ir ++ Il))
            hs hp hb hl hpt ?_ ⟨Ir, Il, hOr, hOl, rfl⟩ (hw.hs ((show HS _ _ ((l5, .loop r0) :: (b8, _) :: (b4, _) :: (b5, _) :: (Ir ++ (Il ++ ((bb, _) :: (q, .deferred (some [])) :: (iq qs ++ [(b2, _)]))))) from HS.cons rfl (HS.cons rfl (HS.cons rfl (HS.cons rfl (HS.chunk (HS.chunk (HS.cons rfl (HS.cons rfl (HS.chunk (HS.cons rfl HS.nil)))))))))).eq (by simp)))).mono (fun v w' ⟨J', ⟨Ir1, Il1, hOr1, hOl1, hJ'⟩, hw'⟩ => ?_)
          · intro pre x J hpre ⟨Ir2, Il2, hOr2, hOl2, hJ⟩ G; subst hJ; subst hr0
            have hxe := mem_edgeList.1 (hpre.subset (List.mem_append_right _ (List.mem_singleton.2 rfl)))
            obtain ⟨hxf, hxt, hxn, hw1, hw2⟩ := isEdge_facts hb hpb hxe
            have hbd2 := round_bd (last := last) hb hpb hrl hbd ((List.prefix_append pre [x]).trans hpre)
            have hl2 := (foldl_rlen pre ⟨r, last, -1⟩).trans hrl
            have hll2 := (foldl_llen pre ⟨r, last, -1⟩).trans hll
            have hq : (pre ++ [x]).foldl relax ⟨r, last, -1⟩ = relax (pre.foldl relax ⟨r, last, -1⟩) x := by rw [List.foldl_append]; rfl
            rw [hq]; clear hq
            generalize pre.foldl relax ⟨r, last, -1⟩ = s at *
            unfold In at hxf hxt
            have hB1 := hbd2 x.frm.toNat (by omega)
            have hB2 := hbd2 x.to.toNat (by omega)
            refine yield_of inferInstance rfl rfl hT hlk rfl rfl hm ?_;refine GE_slots (L' := [(3, I l.length), (4, ptr b4 0), (5, ptr b5 0), (8, ptr b8 0), (48, .agg (eEdge x).toArray)]) ⟨rfl, rfl, rfl, rfl, rfl, trivial⟩ ?_;refine ZP 2 [0, 1] rfl ?_;refine Zb rfl zc_235 fun b9 => ?_;refine ZS [_, _, _, _, _] [_, _, _, _, _] rfl rfl sz_235 rfl rfl rfl ?_;refine GT_nil ?_;refine GE_beginRound rfl ?_;refine GE_block ?_;refine GE_seq ?_;refine GE_seq ?_;refine GE_drawn (.st 0 (.st 1 (.st 2 (.st 3 (.st 4 (.st 5 (.st 6 (.st 7 (.st 8 (.st 9 (.st 10 (.st 11 (.st 12 (.st 13 .nil)))))))))))))) [] (by decide +kernel) ?_;refine Zl rfl ag_43 rfl ?_;refine Zg rfl fo_235_1 rfl ag_3 rfl ?_;refine GT_S rfl (V_index rfl rfl rfl Tryz.underlying43 sz_2 (k := x.frm.toNat) (by omega) (by omega) (hOr2.isSome (k := x.frm.toNat) (by omega))) ?_;refine ZL rfl ag_2 (CellAt.own0 hOr2 eI_len (by omega) rfl) ?_;refine Zg rfl fo_235_3 rfl ag_2 rfl ?_;refine Za rfl (by omega) ?_;refine Zl rfl ag_43 rfl ?_;refine Zg rfl fo_235_2 rfl ag_3 rfl ?_;refine GT_S rfl (V_index rfl rfl rfl Tryz.underlying43 sz_2 (k := x.to.toNat) (by omega) (by omega) (hOr2.isSome (k := x.frm.toNat) (by omega))) ?_;refine ZL rfl ag_2 (CellAt.own0 hOr2 eI_len (by omega) rfl) ?_;refine GT_S rfl (V_geq rfl rfl rfl) ?_;refine GT_nil ?_;refine GE_cond rfl (fun hge => ?_) (fun hge => ?_)
            · rw [relax_no (by unfold R; omega)]
              refine GE_exit rfl ?_
              first
                | (refine GE_leave none rfl (fun w hw => ⟨_, ⟨_, rfl, ⟨Ir3, Il3, hOr3, hOl3, rfl⟩, rfl⟩, ?_⟩); rw [j4]; exact hw.hs (HS.cons rfl (HS.cons rfl (HS.cons rfl (HS.cons rfl (HS.chunk (HS.chunk HS.last)))))))
                | (refine GE_leave none rfl (fun w hw => ⟨_, ⟨_, rfl, ⟨Ir2, Il2, hOr2, hOl2, rfl⟩, rfl⟩, ?_⟩); rw [j4]; exact hw.hs (HS.cons rfl (HS.cons rfl (HS.cons rfl (HS.cons rfl (HS.chunk (HS.chunk HS.last)))))))
            · rw [relax_yes (by unfold R; omega)]
              refine GE_skip ?_;refine Zs [4, 5, 8, 9] rfl ?_;refine GE_drawn (.st 0 (.st 1 (.st 2 (.st 3 (.st 4 (.st 5 (.st 6 (.st 7 (.st 8 (.st 9 (.st 10 (.st 11 (.st 12 (.st 13 (.st 14 (.st 15 (.st 16 (.st 17 (.ld 18 [3, 4, 5, 14, 15, 16] (.st 19 (.ld 20 [15, 16] (.ld 21 [] .nil)))))))))))))))))))))) [18, 20, 21] (by decide +kernel) ?_;refine Zl rfl ag_43 rfl ?_;refine Zg rfl fo_235_2 rfl ag_3 rfl ?_;refine Zl rfl ag_231 rfl ?_;refine Zg rfl fo_235_2 rfl ag_3 rfl ?_;refine Zl rfl ag_43 rfl ?_;refine Zg rfl fo_235_1 rfl ag_3 rfl ?_;refine GT_S rfl (V_index rfl rfl rfl Tryz.underlying43 sz_2 (k := x.frm.toNat) (by omega) (by omega) (hOr2.isSome (k := x.frm.toNat) (by omega))) ?_;refine ZL rfl ag_2 (CellAt.own0 hOr2 eI_len (by omega) rfl) ?_;refine Zg rfl fo_235_3 rfl ag_2 rfl ?_;refine Za rfl (by omega) ?_;refine ZN [_, _, _, _, _] rfl ag_235 sz_235 rfl rfl ?_;refine Zg rfl fo_235_2 rfl ag_3 rfl ?_;refine GT_S rfl (V_index rfl rfl rfl Tryz.underlying43 sz_2 (k := x.to.toNat) (by omega) (by omega) (hOr2.isSome (k := x.frm.toNat) (by omega))) ?_;refine GT_storeOwn (enc := eI) (q := x.to.toNat) (xx := R s x.frm + x.wt) rfl rfl rfl rfl rfl rfl rfl sz_2 hOr2 eI_len eI_one (by omega) (by decide) (fun _ _ => Rl rfl ag_231 rfl rfl (Rf rfl fo_235_2 rfl (Rl rfl ag_3 rfl rfl (GR_S rfl rfl (V_loadN (vs := [_, _, _, _, _]) rfl rfl ag_235 sz_235 rfl (CellsAt.item rfl)) (Rf rfl fo_235_2 rfl (Rl rfl ag_3 rfl rfl GR_nil)))))) (fun Ir3 hOr3 => ?_);refine GT_S rfl (V_index rfl rfl rfl Tryz.underlying231 sz_235 (k := x.to.toNat) (by omega) (by omega) (hOl2.isSome (k := x.frm.toNat) (by omega))) ?_;refine GT_storeOwn (enc := eEdge) (q := x.to.toNat) (xx := x) rfl rfl rfl rfl rfl rfl rfl sz_235 hOl2 eEdge_len eEdge_one (by omega) (by decide) (fun _ _ => Rf rfl fo_235_2 rfl (Rl rfl ag_3 rfl rfl GR_nil)) (fun Il3 hOl3 => ?_);refine ZS [_] [_] rfl rfl sz_3 rfl rfl rfl ?_;refine GT_nil ?_;refine GE_inBlock ?_
              first
                | (refine GE_leave none rfl (fun w hw => ⟨_, ⟨_, rfl, ⟨Ir3, Il3, hOr3, hOl3, rfl⟩, rfl⟩, ?_⟩); rw [j4]; exact hw.hs (HS.cons rfl (HS.cons rfl (HS.cons rfl (HS.cons rfl (HS.chunk (HS.chunk HS.last)))))))
                | (refine GE_leave none rfl (fun w hw => ⟨_, ⟨_, rfl, ⟨Ir2, Il2, hOr2, hOl2, rfl⟩, rfl⟩, ?_⟩); rw [j4]; exact hw.hs (HS.cons rfl (HS.cons rfl (HS.cons rfl (HS.cons rfl (HS.chunk (HS.chunk HS.last)))))))
          · subst hJ'; subst hr0
            have es : List.foldl relax ⟨r, last, -1⟩ (edgeList b l) = round b l r last := rfl
            rw [es] at hOr1 hOl1 hw'
            have hbd1 := round_bd (last := last) hb hpb hrl hbd List.prefix_rfl
            rw [es] at hbd1
            obtain ⟨hrl1, hll1⟩ := round_len b l r last
            refine ⟨_, (b8, blk [I (round b l r last).ch] 3) :: (b4, blk [.slice (some ⟨br, 0, none⟩) l.length l.length] 43) :: (b5, blk [.slice (some ⟨bl, 0, none⟩) l.length l.length] 231) :: (Ir1 ++ (Il1 ++ (iq qs ++ [(b2, blk [.slice none 0 0, .slice none 0 0] 187)]))), ?_, hw'.hs (HS.cons rfl (HS.cons rfl (HS.cons rfl (HS.cons rfl (HS.cons rfl (HS.chunk (HS.chunk (HS.chunk (HS.cons rfl HS.nil))))))))), ?_⟩
            · intro h; cases h
            refine GE_D (D' := dq (q :: qs)) ?_ rfl
            refine GE_inBlock ?_;refine GE_seq ?_;refine Zp 2 [] rfl ?_;refine Zl rfl ag_3 rfl ?_;refine GT_S rfl (V_eql rfl rfl rfl) ?_;refine GT_nil ?_;refine GE_cond rfl (fun hch => ?_) (fun hch => ?_)
            · have hset1 : settled b l = round b l r last := (by rw [← hset, show l.length + 2 - k = (l.length + 1 - k) + 1 by omega, rounds_stop hch]); rw [← hset1] at hOr1 hOl1 hbd1 hrl1 hll1 hch; rw [hrl] at hrl1; rw [hll] at hll1
              refine GE_exit rfl ?_;refine GE_seq ?_;refine Zq [0, 2, 3, 4, 5] 2 [] rfl rfl ?_;refine Zr 2 rfl ?_;refine GT_nil ?_;refine GE_block ?_;refine GE_to (GE_loop (ι := Nat) (fun i => l.length - i) (fun i => [(0, ptr bs 0), (2, ptr b2 0), (4, ptr b4 0), (5, ptr b5 0), (91, I l.length), (92, I i)]) (fun i => Ir1 ++ (Il1 ++ (iq (q :: qs) ++ [(b4, blk [.slice (some ⟨br, 0, none⟩) l.length l.length] 43), (b5, blk [.slice (some ⟨bl, 0, none⟩) l.length l.length] 231), (b2, blk [.slice none 0 0, .slice none 0 0] 187)]))) (fun i => i ≤ l.length ∧ ∀ q : Nat, q < i → 0 ≤ (settled b l).r.getD q default + (edgeOf b l 2 q).1.wt) ?_ 0 ?_) ⟨rfl, rfl, rfl, rfl, rfl, rfl, trivial⟩ (HS.chunk (HS.chunk (HS.chunk (HS.cons rfl (HS.cons rfl (HS.cons rfl HS.nil))))))
              · rintro i ⟨hi, hiq⟩ ih3
                refine Zp 1 [] rfl ?_;refine GT_S rfl (V_lss rfl rfl rfl) ?_;refine Zz ?_;refine GE_cond rfl (fun h5 => ?_) (fun h5 => ?_)
                · have hil : i < l.length := (by omega); have hBi := hbd1 i hil; have he2 := congrArg (fun e : Edge × Bool => e.1.wt) (edgeOf_two (b := b) (l := l) (i := (i : Int)) ⟨by omega, by omega⟩); have hpi := hpb i hil; have hbo := Blank.ok_iff.1 hb; simp only [Int.toNat_natCast] at he2
                  refine GE_skip ?_;refine GE_seq ?_;refine GE_block ?_;refine Zp 2 [] rfl ?_;refine Zr 2 rfl ?_;refine GT_nil ?_;refine Zp 9 [2, 6, 7] rfl ?_;refine Zr 2 rfl ?_;refine Zc rfl rn_104 (fun w hw => C_lathe_edge (hs.sh hw) (hp.sh hw) hb hl hpt) GR_nil ?_;refine Zr 3 rfl ?_;refine Zb rfl zc_235 fun b11 => ?_;refine ZS [_, _, _, _, _] [_, _, _, _, _] rfl rfl sz_235 rfl rfl rfl ?_;refine Zv rfl ?_;refine Zz ?_;refine Zs [0, 2, 4, 5, 10, 11, 91, 92] rfl ?_;refine GE_drawn (.st 0 (.st 1 (.st 2 (.st 3 (.st 4 (.st 5 (.st 6 (.st 7 .nil)))))))) [] (by decide +kernel) ?_;refine Zl rfl ag_43 rfl ?_;refine Zv rfl ?_;refine GT_S rfl (V_index rfl rfl rfl Tryz.underlying43 sz_2 (k := i) rfl (by omega) (hOr1.isSome (k := i) (by omega))) ?_;refine ZL rfl ag_2 (CellAt.own0 hOr1 eI_len (by omega) rfl) ?_;refine Zg rfl fo_235_3 rfl ag_2 rfl ?_;refine Za rfl (by omega) ?_;refine GT_S rfl (V_lss rfl rfl rfl) ?_;refine GT_nil ?_;refine GE_cond rfl (fun h6 => ?_) (fun h6 => ?_)
                  · obtain ⟨m, hm8, hway⟩ := settled_way hb hpb hl hch (v := i) ⟨by omega, by omega⟩; have hef : (edgeOf b l 2 i).1.frm = i := (by rw [edgeOf_two ⟨by omega, by omega⟩])
                    refine Zq [2, 5, 11] 5 [2, 4] rfl rfl ?_;refine Zl rfl ag_231 rfl ?_;refine ZN [_, _, _, _, _] rfl ag_235 sz_235 rfl rfl ?_;refine ZC rfl rn_107 (fun w hw => C_lathe_way (m := m) (x := (edgeOf b l 2 i).1) hll1.symm (hOl1.rdH eEdge_len hw) (fun j hj => by rw [hef, hll1]; exact hway.ins j hj) (by rw [hef]; exact hway.rim) hm8) (fun _ _ => GR_nil) (fun x111 hx111 => ?_);refine GT_S rfl (V_build (vs := [_, _]) rfl rfl zc_187 pl_187 sa_187 rfl) ?_;refine ZS [_, _] [_, _] rfl rfl sz_187 rfl rfl rfl ?_;refine GT_nil ?_;refine GE_retq Tryz.func86 ⟨_, rfl, fun w m => run_loadVar_agg (vs := [_, _]) ag_187 sz_187 rfl (fun j v hj => CellsAt.item rfl j v hj w m)⟩ (fun w hw => ?_)
                    exact ⟨([], (wsteps (settled b l).last (edgeOf b l 2 i).1 m).reverse, (none, 0, []), x111), ⟨.inr (.inl ⟨hch, rfl, i, by omega, h6, m, hway, rfl⟩), Own.nil, by dsimp only; rw [List.length_reverse]; exact hx111⟩, by dsimp only; rw [List.length_reverse]; rfl, hw.hs (HS.chunk (I := []) HS.last)⟩
                  · refine GE_skip ?_;refine GE_inBlock ?_;refine Zs [0, 2, 4, 5, 91, 92] rfl ?_;refine ZP 2 [1] rfl ?_;refine Za rfl (by omega) ?_;refine Zw rfl ?_;refine GT_nil ?_
                    exact GE_to (ih3 (i + 1) ⟨by omega, fun q hq => by rcases Nat.lt_or_ge q i with h | h; exact hiq q h; obtain rfl : q = i := (by omega); omega⟩ (by omega)) ⟨rfl, rfl, rfl, rfl, rfl, rfl, trivial⟩ (HS.chunk (HS.chunk (HS.chunk (HS.cons rfl (HS.cons rfl (HS.cons rfl HS.nil))))))
                · obtain rfl : i = l.length := (by omega)
                  refine GE_exit rfl ?_;refine Zq [2, 4] 3 [2] rfl rfl ?_;refine Zl rfl ag_43 rfl ?_;refine GT_S rfl (V_build (vs := [_, _]) rfl rfl zc_187 pl_187 sa_187 rfl) ?_;refine ZS [_, _] [_, _] rfl rfl sz_187 rfl rfl rfl ?_;refine GT_nil ?_;refine GE_retq Tryz.func86 ⟨_, rfl, fun w m => run_loadVar_agg (vs := [_, _]) ag_187 sz_187 rfl (fun j v hj => CellsAt.item rfl j v hj w m)⟩ (fun w hw => ?_)
                  exact ⟨((settled b l).r, [], (some ⟨br, 0, none⟩, l.length, Ir1), (none, 0, [])), ⟨.inr (.inr ⟨hch, rfl, rfl, hiq⟩), by dsimp only; rw [hrl1]; exact hOr1, Own.nil⟩, by dsimp only; rw [hrl1]; rfl, hw.hs (HS.chunk HS.nil)⟩
              · exact ⟨Nat.zero_le _, fun q hq => absurd hq (Nat.not_lt_zero _)⟩
            · refine GE_skip ?_;refine Zq [0, 2, 3, 4, 5, 7, 8] 3 [] rfl rfl ?_;refine Zr 2 rfl ?_;refine GT_S rfl (V_gtr rfl rfl rfl) ?_;refine GT_nil ?_;refine GE_cond rfl (fun hkn => ?_) (fun hkn => ?_)
              · have hset1 : settled b l = round b l r last := (by rw [← hset, show l.length + 2 - k = 1 by omega, rounds_last]); rw [← hset1] at hOr1 hOl1 hrl1 hll1 hch ⊢; rw [hll] at hll1; have hll1' := hll1; obtain ⟨hins, m, hm0, hmn, hmb⟩ := settled_circle hb hpb hch
                refine Zq [2, 5, 8] 5 [2, 4] rfl rfl ?_;refine Zl rfl ag_231 rfl ?_;refine Zl rfl ag_3 rfl ?_;refine ZC rfl rn_106 (fun w hw => C_lathe_circle hll1.symm (hOl1.rdH eEdge_len hw) (fun i => by rw [hll1]; exact hins i) (by omega) hm0 (by rw [hll1]; exact hmb) (by omega) (fun i => by rw [hll1, ← back_add]; exact hins _)) (fun _ _ => GR_nil) (fun x89 hx89 => ?_)
                rw [hll1] at hx89 ⊢
                refine GT_S rfl (V_build (vs := [_, _]) rfl rfl zc_187 pl_187 sa_187 rfl) ?_;refine ZS [_, _] [_, _] rfl rfl sz_187 rfl rfl rfl ?_;refine GT_nil ?_;refine GE_retq Tryz.func86 ⟨_, rfl, fun w m => run_loadVar_agg (vs := [_, _]) ag_187 sz_187 rfl (fun j v hj => CellsAt.item rfl j v hj w m)⟩ (fun w hw => ?_)
                exact ⟨([], (csteps (settled b l).last (back (settled b l).last l.length (settled b l).ch) x89.1).reverse, (none, 0, []), (x89.2.1, x89.2.2.1, x89.2.2.2)), ⟨.inl ⟨hch, rfl, _, hx89.1, rfl⟩, Own.nil, by dsimp only; rw [List.length_reverse]; exact hx89.2⟩, by dsimp only; rw [List.length_reverse]; rfl, hw.hs (HS.chunk (I := []) HS.last)⟩
              · have hset1 : rounds b l (l.length + 2 - (k + 1)) (round b l r last).r (round b l r last).last = settled b l := (by rw [← hset, show l.length + 2 - k = (l.length + 2 - (k + 1)) + 1 by omega, rounds_go hch (by omega)])
                refine GE_skip ?_;refine GE_inScope ?_;refine GE_inBlock ?_;refine Zs [0, 2, 3, 4, 5, 7] rfl ?_;refine ZP 3 [2] rfl ?_;refine Zv rfl ?_;refine Za rfl (by omega) ?_;refine Zw rfl ?_;refine GT_nil ?_
                exact GE_to (ih (k + 1, (round b l r last).r, (round b l r last).last, Ir1, Il1, q :: qs) ⟨by dsimp only; omega, by dsimp only; rw [hrl1, hrl], by dsimp only; rw [hll1, hll], (fun q hq => by have := hbd1 q hq; dsimp only at this ⊢; push_cast; omega), hOr1, hOl1, hset1⟩ (by dsimp only; omega)) ⟨rfl, rfl, rfl, rfl, rfl, rfl, trivial⟩ (HS.chunk (HS.chunk (HS.chunk (HS.cons rfl (HS.cons rfl (HS.cons rfl HS.nil))))))
        · exact ⟨Nat.zero_le _, start_length b l, rimEdges_length b l, hbd0, hOr, hOl, rfl⟩
    · refine ⟨Nat.zero_le _, by simp, by simp, fun q hq => absurd hq (Nat.not_lt_zero _), fun q hq => absurd hq (Nat.not_lt_zero _), Own.made (x := (0 : Int)) rfl (Nat.le_trans hl (by decide)), Own.made (x := (⟨0, 0, 0, 0, 0⟩ : Edge)) rfl (Nat.le_trans hl (by decide))⟩
  · refine Zs [0, 2, 3] rfl ?_;refine GE_drawn (.st 0 (.st 2 (.br (.ld 1 [2] (.br (.ld 3 [0] (.br (.ld 4 [0, 2] (.ld 5 [0, 2] (.ld 6 [2] (.ld 7 [] .nil)))) (.ld 5 [0, 2] (.ld 4 [0, 2] (.ld 6 [2] (.ld 7 [] .nil)))))) (.br (.ld 4 [0, 2] (.br (.ld 3 [0] (.ld 5 [0, 2] (.ld 6 [2] (.ld 7 [] .nil)))) (.ld 5 [0, 2] (.br (.ld 3 [0] (.ld 6 [2] (.ld 7 [] .nil))) (.ld 6 [2] (.ld 3 [0] (.ld 7 [] .nil))))))) (.ld 5 [0, 2] (.br (.ld 3 [0] (.ld 4 [0, 2] (.ld 6 [2] (.ld 7 [] .nil)))) (.ld 4 [0, 2] (.br (.ld 3 [0] (.ld 6 [2] (.ld 7 [] .nil))) (.ld 6 [2] (.ld 3 [0] (.ld 7 [] .nil)))))))))) (.br (.ld 3 [0] (.br (.ld 1 [2] (.br (.ld 4 [0, 2] (.ld 5 [0, 2] (.ld 6 [2] (.ld 7 [] .nil)))) (.ld 5 [0, 2] (.ld 4 [0, 2] (.ld 6 [2] (.ld 7 [] .nil)))))) (.br (.ld 4 [0, 2] (.br (.ld 1 [2] (.ld 5 [0, 2] (.ld 6 [2] (.ld 7 [] .nil)))) (.ld 5 [0, 2] (.ld 1 [2] (.ld 6 [2] (.ld 7 [] .nil)))))) (.ld 5 [0, 2] (.br (.ld 1 [2] (.ld 4 [0, 2] (.ld 6 [2] (.ld 7 [] .nil)))) (.ld 4 [0, 2] (.ld 1 [2] (.ld 6 [2] (.ld 7 [] .nil))))))))) (.br (.ld 4 [0, 2] (.br (.ld 1 [2] (.br (.ld 3 [0] (.ld 5 [0, 2] (.ld 6 [2] (.ld 7 [] .nil)))) (.ld 5 [0, 2] (.br (.ld 3 [0] (.ld 6 [2] (.ld 7 [] .nil))) (.ld 6 [2] (.ld 3 [0] (.ld 7 [] .nil))))))) (.br (.ld 3 [0] (.br (.ld 1 [2] (.ld 5 [0, 2] (.ld 6 [2] (.ld 7 [] .nil)))) (.ld 5 [0, 2] (.ld 1 [2] (.ld 6 [2] (.ld 7 [] .nil)))))) (.ld 5 [0, 2] (.br (.ld 1 [2] (.br (.ld 3 [0] (.ld 6 [2] (.ld 7 [] .nil))) (.ld 6 [2] (.ld 3 [0] (.ld 7 [] .nil))))) (.ld 3 [0] (.ld 1 [2] (.ld 6 [2] (.ld 7 [] .nil))))))))) (.ld 5 [0, 2] (.br (.ld 1 [2] (.br (.ld 3 [0] (.ld 4 [0, 2] (.ld 6 [2] (.ld 7 [] .nil)))) (.ld 4 [0, 2] (.br (.ld 3 [0] (.ld 6 [2] (.ld 7 [] .nil))) (.ld 6 [2] (.ld 3 [0] (.ld 7 [] .nil))))))) (.br (.ld 3 [0] (.br (.ld 1 [2] (.ld 4 [0, 2] (.ld 6 [2] (.ld 7 [] .nil)))) (.ld 4 [0, 2] (.ld 1 [2] (.ld 6 [2] (.ld 7 [] .nil)))))) (.ld 4 [0, 2] (.br (.ld 1 [2] (.br (.ld 3 [0] (.ld 6 [2] (.ld 7 [] .nil))) (.ld 6 [2] (.ld 3 [0] (.ld 7 [] .nil))))) (.ld 3 [0] (.ld 1 [2] (.ld 6 [2] (.ld 7 [] .nil)))))))))))))) [1, 3, 4, 5, 6, 7] (by decide +kernel) ?_;refine Zr 2 rfl ?_;refine GT_br ?_ ?_
    · refine GT_makeSlice rfl rfl rfl rfl rfl rfl rfl Tryz.underlying43 zc_2 sz_2 by_2 ⟨rfl, rfl, rfl⟩ ⟨by omega, by omega⟩ (fun _ => Rv rfl rfl GR_nil) (fun b19 => ?_);refine GT_br ?_ ?_
      · refine GT_makeSlice rfl rfl rfl rfl rfl rfl rfl Tryz.underlying231 zc_235 sz_235 by_235 ⟨rfl, rfl, rfl⟩ ⟨by omega, by omega⟩ (fun _ => Rv rfl rfl GR_nil) (fun b21 => ?_);refine GT_br ?_ ?_
        · refine GT_alloc rfl rfl rfl rfl rfl zc_43 (fun _ => Rv rfl rfl (Rv rfl rfl GR_nil)) (fun b4 => ?_);refine GT_alloc rfl rfl rfl rfl rfl zc_231 (fun _ => Rv rfl rfl (Rv rfl rfl GR_nil)) (fun b5 => ?_);refine GT_store (vs := [_]) (l' := [_]) rfl rfl rfl rfl rfl rfl rfl sz_43 rfl rfl (Nat.le_of_ble_eq_true rfl) rfl (Rv rfl rfl GR_nil) ?_;refine ZS [_] [_] rfl rfl sz_231 rfl rfl rfl ?_;refine GT_nil ?_
          exact GE_to (hk (b2, b4, b5, b19, b21) trivial) ⟨rfl, rfl, rfl, rfl, rfl, trivial⟩ (HS.cons rfl (HS.cons rfl (HS.cons rfl (HS.cons rfl (HS.cons rfl HS.nil)))))
        · refine GT_alloc rfl rfl rfl rfl rfl zc_231 (fun _ => Rv rfl rfl (Rv rfl rfl GR_nil)) (fun b5 => ?_);refine GT_alloc rfl rfl rfl rfl rfl zc_43 (fun _ => Rv rfl rfl (Rv rfl rfl GR_nil)) (fun b4 => ?_);refine GT_store (vs := [_]) (l' := [_]) rfl rfl rfl rfl rfl rfl rfl sz_43 rfl rfl (Nat.le_of_ble_eq_true rfl) rfl (Rv rfl rfl GR_nil) ?_;refine ZS [_] [_] rfl rfl sz_231 rfl rfl rfl ?_;refine GT_nil ?_
          exact GE_to (hk (b2, b4, b5, b19, b21) trivial) ⟨rfl, rfl, rfl, rfl, rfl, trivial⟩ (HS.cons rfl (HS.cons rfl (HS.cons rfl (HS.cons rfl (HS.cons rfl HS.nil)))))
      · refine GT_br ?_ ?_
        · refine GT_alloc rfl rfl rfl rfl rfl zc_43 (fun _ => Rv rfl rfl (Rv rfl rfl GR_nil)) (fun b4 => ?_);refine GT_br ?_ ?_
          · refine GT_makeSlice rfl rfl rfl rfl rfl rfl rfl Tryz.underlying231 zc_235 sz_235 by_235 ⟨rfl, rfl, rfl⟩ ⟨by omega, by omega⟩ (fun _ => Rv rfl rfl GR_nil) (fun b21 => ?_);refine GT_alloc rfl rfl rfl rfl rfl zc_231 (fun _ => Rv rfl rfl (Rv rfl rfl GR_nil)) (fun b5 => ?_);refine GT_store (vs := [_]) (l' := [_]) rfl rfl rfl rfl rfl rfl rfl sz_43 rfl rfl (Nat.le_of_ble_eq_true rfl) rfl (Rv rfl rfl GR_nil) ?_;refine ZS [_] [_] rfl rfl sz_231 rfl rfl rfl ?_;refine GT_nil ?_
            exact GE_to (hk (b2, b4, b5, b19, b21) trivial) ⟨rfl, rfl, rfl, rfl, rfl, trivial⟩ (HS.cons rfl (HS.cons rfl (HS.cons rfl (HS.cons rfl (HS.cons rfl HS.nil)))))
          · refine GT_alloc rfl rfl rfl rfl rfl zc_231 (fun _ => Rv rfl rfl (Rv rfl rfl GR_nil)) (fun b5 => ?_);refine GT_br ?_ ?_
            · refine GT_makeSlice rfl rfl rfl rfl rfl rfl rfl Tryz.underlying231 zc_235 sz_235 by_235 ⟨rfl, rfl, rfl⟩ ⟨by omega, by omega⟩ (fun _ => Rv rfl rfl GR_nil) (fun b21 => ?_);refine GT_store (vs := [_]) (l' := [_]) rfl rfl rfl rfl rfl rfl rfl sz_43 rfl rfl (Nat.le_of_ble_eq_true rfl) rfl (Rv rfl rfl GR_nil) ?_;refine ZS [_] [_] rfl rfl sz_231 rfl rfl rfl ?_;refine GT_nil ?_
              exact GE_to (hk (b2, b4, b5, b19, b21) trivial) ⟨rfl, rfl, rfl, rfl, rfl, trivial⟩ (HS.cons rfl (HS.cons rfl (HS.cons rfl (HS.cons rfl (HS.cons rfl HS.nil)))))
            · refine GT_store (vs := [_]) (l' := [_]) rfl rfl rfl rfl rfl rfl rfl sz_43 rfl rfl (Nat.le_of_ble_eq_true rfl) rfl (Rv rfl rfl GR_nil) ?_;refine GT_makeSlice rfl rfl rfl rfl rfl rfl rfl Tryz.underlying231 zc_235 sz_235 by_235 ⟨rfl, rfl, rfl⟩ ⟨by omega, by omega⟩ (fun _ => Rv rfl rfl GR_nil) (fun b21 => ?_);refine ZS [_] [_] rfl rfl sz_231 rfl rfl rfl ?_;refine GT_nil ?_
              exact GE_to (hk (b2, b4, b5, b19, b21) trivial) ⟨rfl, rfl, rfl, rfl, rfl, trivial⟩ (HS.cons rfl (HS.cons rfl (HS.cons rfl (HS.cons rfl (HS.cons rfl HS.nil)))))
        · refine GT_alloc rfl rfl rfl rfl rfl zc_231 (fun _ => Rv rfl rfl (Rv rfl rfl GR_nil)) (fun b5 => ?_);refine GT_br ?_ ?_
          · refine GT_makeSlice rfl rfl rfl rfl rfl rfl rfl Tryz.underlying231 zc_235 sz_235 by_235 ⟨rfl, rfl, rfl⟩ ⟨by omega, by omega⟩ (fun _ => Rv rfl rfl GR_nil) (fun b21 => ?_);refine GT_alloc rfl rfl rfl rfl rfl zc_43 (fun _ => Rv rfl rfl (Rv rfl rfl GR_nil)) (fun b4 => ?_);refine GT_store (vs := [_]) (l' := [_]) rfl rfl rfl rfl rfl rfl rfl sz_43 rfl rfl (Nat.le_of_ble_eq_true rfl) rfl (Rv rfl rfl GR_nil) ?_;refine ZS [_] [_] rfl rfl sz_231 rfl rfl rfl ?_;refine GT_nil ?_
            exact GE_to (hk (b2, b4, b5, b19, b21) trivial) ⟨rfl, rfl, rfl, rfl, rfl, trivial⟩ (HS.cons rfl (HS.cons rfl (HS.cons rfl (HS.cons rfl (HS.cons rfl HS.nil)))))
          · refine GT_alloc rfl rfl rfl rfl rfl zc_43 (fun _ => Rv rfl rfl (Rv rfl rfl GR_nil)) (fun b4 => ?_);refine GT_br ?_ ?_
            · refine GT_makeSlice rfl rfl rfl rfl rfl rfl rfl Tryz.underlying231 zc_235 sz_235 by_235 ⟨rfl, rfl, rfl⟩ ⟨by omega, by omega⟩ (fun _ => Rv rfl rfl GR_nil) (fun b21 => ?_);refine GT_store (vs := [_]) (l' := [_]) rfl rfl rfl rfl rfl rfl rfl sz_43 rfl rfl (Nat.le_of_ble_eq_true rfl) rfl (Rv rfl rfl GR_nil) ?_;refine ZS [_] [_] rfl rfl sz_231 rfl rfl rfl ?_;refine GT_nil ?_
              exact GE_to (hk (b2, b4, b5, b19, b21) trivial) ⟨rfl, rfl, rfl, rfl, rfl, trivial⟩ (HS.cons rfl (HS.cons rfl (HS.cons rfl (HS.cons rfl (HS.cons rfl HS.nil)))))
            · refine GT_store (vs := [_]) (l' := [_]) rfl rfl rfl rfl rfl rfl rfl sz_43 rfl rfl (Nat.le_of_ble_eq_true rfl) rfl (Rv rfl rfl GR_nil) ?_;refine GT_makeSlice rfl rfl rfl rfl rfl rfl rfl Tryz.underlying231 zc_235 sz_235 by_235 ⟨rfl, rfl, rfl⟩ ⟨by omega, by omega⟩ (fun _ => Rv rfl rfl GR_nil) (fun b21 => ?_);refine ZS [_] [_] rfl rfl sz_231 rfl rfl rfl ?_;refine GT_nil ?_
              exact GE_to (hk (b2, b4, b5, b19, b21) trivial) ⟨rfl, rfl, rfl, rfl, rfl, trivial⟩ (HS.cons rfl (HS.cons rfl (HS.cons rfl (HS.cons rfl (HS.cons rfl HS.nil)))))
    · refine GT_br ?_ ?_
      · refine GT_makeSlice rfl rfl rfl rfl rfl rfl rfl Tryz.underlying231 zc_235 sz_235 by_235 ⟨rfl, rfl, rfl⟩ ⟨by omega, by omega⟩ (fun _ => Rv rfl rfl GR_nil) (fun b21 => ?_);refine GT_br ?_ ?_
        · refine GT_makeSlice rfl rfl rfl rfl rfl rfl rfl Tryz.underlying43 zc_2 sz_2 by_2 ⟨rfl, rfl, rfl⟩ ⟨by omega, by omega⟩ (fun _ => Rv rfl rfl GR_nil) (fun b19 => ?_);refine GT_br ?_ ?_
          · refine GT_alloc rfl rfl rfl rfl rfl zc_43 (fun _ => Rv rfl rfl (Rv rfl rfl GR_nil)) (fun b4 => ?_);refine GT_alloc rfl rfl rfl rfl rfl zc_231 (fun _ => Rv rfl rfl (Rv rfl rfl GR_nil)) (fun b5 => ?_);refine GT_store (vs := [_]) (l' := [_]) rfl rfl rfl rfl rfl rfl rfl sz_43 rfl rfl (Nat.le_of_ble_eq_true rfl) rfl (Rv rfl rfl GR_nil) ?_;refine ZS [_] [_] rfl rfl sz_231 rfl rfl rfl ?_;refine GT_nil ?_
            exact GE_to (hk (b2, b4, b5, b19, b21) trivial) ⟨rfl, rfl, rfl, rfl, rfl, trivial⟩ (HS.cons rfl (HS.cons rfl (HS.cons rfl (HS.cons rfl (HS.cons rfl HS.nil)))))
          · refine GT_alloc rfl rfl rfl rfl rfl zc_231 (fun _ => Rv rfl rfl (Rv rfl rfl GR_nil)) (fun b5 => ?_);refine GT_alloc rfl rfl rfl rfl rfl zc_43 (fun _ => Rv rfl rfl (Rv rfl rfl GR_nil)) (fun b4 => ?_);refine GT_store (vs := [_]) (l' := [_]) rfl rfl rfl rfl rfl rfl rfl sz_43 rfl rfl (Nat.le_of_ble_eq_true rfl) rfl (Rv rfl rfl GR_nil) ?_;refine ZS [_] [_] rfl rfl sz_231 rfl rfl rfl ?_;refine GT_nil ?_
            exact GE_to (hk (b2, b4, b5, b19, b21) trivial) ⟨rfl, rfl, rfl, rfl, rfl, trivial⟩ (HS.cons rfl (HS.cons rfl (HS.cons rfl (HS.cons rfl (HS.cons rfl HS.nil)))))
        · refine GT_br ?_ ?_
          · refine GT_alloc rfl rfl rfl rfl rfl zc_43 (fun _ => Rv rfl rfl (Rv rfl rfl GR_nil)) (fun b4 => ?_);refine GT_br ?_ ?_
            · refine GT_makeSlice rfl rfl rfl rfl rfl rfl rfl Tryz.underlying43 zc_2 sz_2 by_2 ⟨rfl, rfl, rfl⟩ ⟨by omega, by omega⟩ (fun _ => Rv rfl rfl GR_nil) (fun b19 => ?_);refine GT_alloc rfl rfl rfl rfl rfl zc_231 (fun _ => Rv rfl rfl (Rv rfl rfl GR_nil)) (fun b5 => ?_);refine GT_store (vs := [_]) (l' := [_]) rfl rfl rfl rfl rfl rfl rfl sz_43 rfl rfl (Nat.le_of_ble_eq_true rfl) rfl (Rv rfl rfl GR_nil) ?_;refine ZS [_] [_] rfl rfl sz_231 rfl rfl rfl ?_;refine GT_nil ?_
              exact GE_to (hk (b2, b4, b5, b19, b21) trivial) ⟨rfl, rfl, rfl, rfl, rfl, trivial⟩ (HS.cons rfl (HS.cons rfl (HS.cons rfl (HS.cons rfl (HS.cons rfl HS.nil)))))
            · refine GT_alloc rfl rfl rfl rfl rfl zc_231 (fun _ => Rv rfl rfl (Rv rfl rfl GR_nil)) (fun b5 => ?_);refine GT_makeSlice rfl rfl rfl rfl rfl rfl rfl Tryz.underlying43 zc_2 sz_2 by_2 ⟨rfl, rfl, rfl⟩ ⟨by omega, by omega⟩ (fun _ => Rv rfl rfl GR_nil) (fun b19 => ?_);refine GT_store (vs := [_]) (l' := [_]) rfl rfl rfl rfl rfl rfl rfl sz_43 rfl rfl (Nat.le_of_ble_eq_true rfl) rfl (Rv rfl rfl GR_nil) ?_;refine ZS [_] [_] rfl rfl sz_231 rfl rfl rfl ?_;refine GT_nil ?_
              exact GE_to (hk (b2, b4, b5, b19, b21) trivial) ⟨rfl, rfl, rfl, rfl, rfl, trivial⟩ (HS.cons rfl (HS.cons rfl (HS.cons rfl (HS.cons rfl (HS.cons rfl HS.nil)))))
          · refine GT_alloc rfl rfl rfl rfl rfl zc_231 (fun _ => Rv rfl rfl (Rv rfl rfl GR_nil)) (fun b5 => ?_);refine GT_br ?_ ?_
            · refine GT_makeSlice rfl rfl rfl rfl rfl rfl rfl Tryz.underlying43 zc_2 sz_2 by_2 ⟨rfl, rfl, rfl⟩ ⟨by omega, by omega⟩ (fun _ => Rv rfl rfl GR_nil) (fun b19 => ?_);refine GT_alloc rfl rfl rfl rfl rfl zc_43 (fun _ => Rv rfl rfl (Rv rfl rfl GR_nil)) (fun b4 => ?_);refine GT_store (vs := [_]) (l' := [_]) rfl rfl rfl rfl rfl rfl rfl sz_43 rfl rfl (Nat.le_of_ble_eq_true rfl) rfl (Rv rfl rfl GR_nil) ?_;refine ZS [_] [_] rfl rfl sz_231 rfl rfl rfl ?_;refine GT_nil ?_
              exact GE_to (hk (b2, b4, b5, b19, b21) trivial) ⟨rfl, rfl, rfl, rfl, rfl, trivial⟩ (HS.cons rfl (HS.cons rfl (HS.cons rfl (HS.cons rfl (HS.cons rfl HS.nil)))))
            · refine GT_alloc rfl rfl rfl rfl rfl zc_43 (fun _ => Rv rfl rfl (Rv rfl rfl GR_nil)) (fun b4 => ?_);refine GT_makeSlice rfl rfl rfl rfl rfl rfl rfl Tryz.underlying43 zc_2 sz_2 by_2 ⟨rfl, rfl, rfl⟩ ⟨by omega, by omega⟩ (fun _ => Rv rfl rfl GR_nil) (fun b19 => ?_);refine GT_store (vs := [_]) (l' := [_]) rfl rfl rfl rfl rfl rfl rfl sz_43 rfl rfl (Nat.le_of_ble_eq_true rfl) rfl (Rv rfl rfl GR_nil) ?_;refine ZS [_] [_] rfl rfl sz_231 rfl rfl rfl ?_;refine GT_nil ?_
              exact GE_to (hk (b2, b4, b5, b19, b21) trivial) ⟨rfl, rfl, rfl, rfl, rfl, trivial⟩ (HS.cons rfl (HS.cons rfl (HS.cons rfl (HS.cons rfl (HS.cons rfl HS.nil)))))
      · refine GT_br ?_ ?_
        · refine GT_alloc rfl rfl rfl rfl rfl zc_43 (fun _ => Rv rfl rfl (Rv rfl rfl GR_nil)) (fun b4 => ?_);refine GT_br ?_ ?_
          · refine GT_makeSlice rfl rfl rfl rfl rfl rfl rfl Tryz.underlying43 zc_2 sz_2 by_2 ⟨rfl, rfl, rfl⟩ ⟨by omega, by omega⟩ (fun _ => Rv rfl rfl GR_nil) (fun b19 => ?_);refine GT_br ?_ ?_
            · refine GT_makeSlice rfl rfl rfl rfl rfl rfl rfl Tryz.underlying231 zc_235 sz_235 by_235 ⟨rfl, rfl, rfl⟩ ⟨by omega, by omega⟩ (fun _ => Rv rfl rfl GR_nil) (fun b21 => ?_);refine GT_alloc rfl rfl rfl rfl rfl zc_231 (fun _ => Rv rfl rfl (Rv rfl rfl GR_nil)) (fun b5 => ?_);refine GT_store (vs := [_]) (l' := [_]) rfl rfl rfl rfl rfl rfl rfl sz_43 rfl rfl (Nat.le_of_ble_eq_true rfl) rfl (Rv rfl rfl GR_nil) ?_;refine ZS [_] [_] rfl rfl sz_231 rfl rfl rfl ?_;refine GT_nil ?_
              exact GE_to (hk (b2, b4, b5, b19, b21) trivial) ⟨rfl, rfl, rfl, rfl, rfl, trivial⟩ (HS.cons rfl (HS.cons rfl (HS.cons rfl (HS.cons rfl (HS.cons rfl HS.nil)))))
            · refine GT_alloc rfl rfl rfl rfl rfl zc_231 (fun _ => Rv rfl rfl (Rv rfl rfl GR_nil)) (fun b5 => ?_);refine GT_br ?_ ?_
              · refine GT_makeSlice rfl rfl rfl rfl rfl rfl rfl Tryz.underlying231 zc_235 sz_235 by_235 ⟨rfl, rfl, rfl⟩ ⟨by omega, by omega⟩ (fun _ => Rv rfl rfl GR_nil) (fun b21 => ?_);refine GT_store (vs := [_]) (l' := [_]) rfl rfl rfl rfl rfl rfl rfl sz_43 rfl rfl (Nat.le_of_ble_eq_true rfl) rfl (Rv rfl rfl GR_nil) ?_;refine ZS [_] [_] rfl rfl sz_231 rfl rfl rfl ?_;refine GT_nil ?_
                exact GE_to (hk (b2, b4, b5, b19, b21) trivial) ⟨rfl, rfl, rfl, rfl, rfl, trivial⟩ (HS.cons rfl (HS.cons rfl (HS.cons rfl (HS.cons rfl (HS.cons rfl HS.nil)))))
              · refine GT_store (vs := [_]) (l' := [_]) rfl rfl rfl rfl rfl rfl rfl sz_43 rfl rfl (Nat.le_of_ble_eq_true rfl) rfl (Rv rfl rfl GR_nil) ?_;refine GT_makeSlice rfl rfl rfl rfl rfl rfl rfl Tryz.underlying231 zc_235 sz_235 by_235 ⟨rfl, rfl, rfl⟩ ⟨by omega, by omega⟩ (fun _ => Rv rfl rfl GR_nil) (fun b21 => ?_);refine ZS [_] [_] rfl rfl sz_231 rfl rfl rfl ?_;refine GT_nil ?_
                exact GE_to (hk (b2, b4, b5, b19, b21) trivial) ⟨rfl, rfl, rfl, rfl, rfl, trivial⟩ (HS.cons rfl (HS.cons rfl (HS.cons rfl (HS.cons rfl (HS.cons rfl HS.nil)))))
          · refine GT_br ?_ ?_
            · refine GT_makeSlice rfl rfl rfl rfl rfl rfl rfl Tryz.underlying231 zc_235 sz_235 by_235 ⟨rfl, rfl, rfl⟩ ⟨by omega, by omega⟩ (fun _ => Rv rfl rfl GR_nil) (fun b21 => ?_);refine GT_br ?_ ?_
              · refine GT_makeSlice rfl rfl rfl rfl rfl rfl rfl Tryz.underlying43 zc_2 sz_2 by_2 ⟨rfl, rfl, rfl⟩ ⟨by omega, by omega⟩ (fun _ => Rv rfl rfl GR_nil) (fun b19 => ?_);refine GT_alloc rfl rfl rfl rfl rfl zc_231 (fun _ => Rv rfl rfl (Rv rfl rfl GR_nil)) (fun b5 => ?_);refine GT_store (vs := [_]) (l' := [_]) rfl rfl rfl rfl rfl rfl rfl sz_43 rfl rfl (Nat.le_of_ble_eq_true rfl) rfl (Rv rfl rfl GR_nil) ?_;refine ZS [_] [_] rfl rfl sz_231 rfl rfl rfl ?_;refine GT_nil ?_
                exact GE_to (hk (b2, b4, b5, b19, b21) trivial) ⟨rfl, rfl, rfl, rfl, rfl, trivial⟩ (HS.cons rfl (HS.cons rfl (HS.cons rfl (HS.cons rfl (HS.cons rfl HS.nil)))))
              · refine GT_alloc rfl rfl rfl rfl rfl zc_231 (fun _ => Rv rfl rfl (Rv rfl rfl GR_nil)) (fun b5 => ?_);refine GT_makeSlice rfl rfl rfl rfl rfl rfl rfl Tryz.underlying43 zc_2 sz_2 by_2 ⟨rfl, rfl, rfl⟩ ⟨by omega, by omega⟩ (fun _ => Rv rfl rfl GR_nil) (fun b19 => ?_);refine GT_store (vs := [_]) (l' := [_]) rfl rfl rfl rfl rfl rfl rfl sz_43 rfl rfl (Nat.le_of_ble_eq_true rfl) rfl (Rv rfl rfl GR_nil) ?_;refine ZS [_] [_] rfl rfl sz_231 rfl rfl rfl ?_;refine GT_nil ?_
                exact GE_to (hk (b2, b4, b5, b19, b21) trivial) ⟨rfl, rfl, rfl, rfl, rfl, trivial⟩ (HS.cons rfl (HS.cons rfl (HS.cons rfl (HS.cons rfl (HS.cons rfl HS.nil)))))
            · refine GT_alloc rfl rfl rfl rfl rfl zc_231 (fun _ => Rv rfl rfl (Rv rfl rfl GR_nil)) (fun b5 => ?_);refine GT_br ?_ ?_
              · refine GT_makeSlice rfl rfl rfl rfl rfl rfl rfl Tryz.underlying43 zc_2 sz_2 by_2 ⟨rfl, rfl, rfl⟩ ⟨by omega, by omega⟩ (fun _ => Rv rfl rfl GR_nil) (fun b19 => ?_);refine GT_br ?_ ?_
                · refine GT_makeSlice rfl rfl rfl rfl rfl rfl rfl Tryz.underlying231 zc_235 sz_235 by_235 ⟨rfl, rfl, rfl⟩ ⟨by omega, by omega⟩ (fun _ => Rv rfl rfl GR_nil) (fun b21 => ?_);refine GT_store (vs := [_]) (l' := [_]) rfl rfl rfl rfl rfl rfl rfl sz_43 rfl rfl (Nat.le_of_ble_eq_true rfl) rfl (Rv rfl rfl GR_nil) ?_;refine ZS [_] [_] rfl rfl sz_231 rfl rfl rfl ?_;refine GT_nil ?_
                  exact GE_to (hk (b2, b4, b5, b19, b21) trivial) ⟨rfl, rfl, rfl, rfl, rfl, trivial⟩ (HS.cons rfl (HS.cons rfl (HS.cons rfl (HS.cons rfl (HS.cons rfl HS.nil)))))
                · refine GT_store (vs := [_]) (l' := [_]) rfl rfl rfl rfl rfl rfl rfl sz_43 rfl rfl (Nat.le_of_ble_eq_true rfl) rfl (Rv rfl rfl GR_nil) ?_;refine GT_makeSlice rfl rfl rfl rfl rfl rfl rfl Tryz.underlying231 zc_235 sz_235 by_235 ⟨rfl, rfl, rfl⟩ ⟨by omega, by omega⟩ (fun _ => Rv rfl rfl GR_nil) (fun b21 => ?_);refine ZS [_] [_] rfl rfl sz_231 rfl rfl rfl ?_;refine GT_nil ?_
                  exact GE_to (hk (b2, b4, b5, b19, b21) trivial) ⟨rfl, rfl, rfl, rfl, rfl, trivial⟩ (HS.cons rfl (HS.cons rfl (HS.cons rfl (HS.cons rfl (HS.cons rfl HS.nil)))))
              · refine GT_makeSlice rfl rfl rfl rfl rfl rfl rfl Tryz.underlying231 zc_235 sz_235 by_235 ⟨rfl, rfl, rfl⟩ ⟨by omega, by omega⟩ (fun _ => Rv rfl rfl GR_nil) (fun b21 => ?_);refine GT_makeSlice rfl rfl rfl rfl rfl rfl rfl Tryz.underlying43 zc_2 sz_2 by_2 ⟨rfl, rfl, rfl⟩ ⟨by omega, by omega⟩ (fun _ => Rv rfl rfl GR_nil) (fun b19 => ?_);refine GT_store (vs := [_]) (l' := [_]) rfl rfl rfl rfl rfl rfl rfl sz_43 rfl rfl (Nat.le_of_ble_eq_true rfl) rfl (Rv rfl rfl GR_nil) ?_;refine ZS [_] [_] rfl rfl sz_231 rfl rfl rfl ?_;refine GT_nil ?_
                exact GE_to (hk (b2, b4, b5, b19, b21) trivial) ⟨rfl, rfl, rfl, rfl, rfl, trivial⟩ (HS.cons rfl (HS.cons rfl (HS.cons rfl (HS.cons rfl (HS.cons rfl HS.nil)))))
        · refine GT_alloc rfl rfl rfl rfl rfl zc_231 (fun _ => Rv rfl rfl (Rv rfl rfl GR_nil)) (fun b5 => ?_);refine GT_br ?_ ?_
          · refine GT_makeSlice rfl rfl rfl rfl rfl rfl rfl Tryz.underlying43 zc_2 sz_2 by_2 ⟨rfl, rfl, rfl⟩ ⟨by omega, by omega⟩ (fun _ => Rv rfl rfl GR_nil) (fun b19 => ?_);refine GT_br ?_ ?_
            · refine GT_makeSlice rfl rfl rfl rfl rfl rfl rfl Tryz.underlying231 zc_235 sz_235 by_235 ⟨rfl, rfl, rfl⟩ ⟨by omega, by omega⟩ (fun _ => Rv rfl rfl GR_nil) (fun b21 => ?_);refine GT_alloc rfl rfl rfl rfl rfl zc_43 (fun _ => Rv rfl rfl (Rv rfl rfl GR_nil)) (fun b4 => ?_);refine GT_store (vs := [_]) (l' := [_]) rfl rfl rfl rfl rfl rfl rfl sz_43 rfl rfl (Nat.le_of_ble_eq_true rfl) rfl (Rv rfl rfl GR_nil) ?_;refine ZS [_] [_] rfl rfl sz_231 rfl rfl rfl ?_;refine GT_nil ?_
              exact GE_to (hk (b2, b4, b5, b19, b21) trivial) ⟨rfl, rfl, rfl, rfl, rfl, trivial⟩ (HS.cons rfl (HS.cons rfl (HS.cons rfl (HS.cons rfl (HS.cons rfl HS.nil)))))
            · refine GT_alloc rfl rfl rfl rfl rfl zc_43 (fun _ => Rv rfl rfl (Rv rfl rfl GR_nil)) (fun b4 => ?_);refine GT_br ?_ ?_
              · refine GT_makeSlice rfl rfl rfl rfl rfl rfl rfl Tryz.underlying231 zc_235 sz_235 by_235 ⟨rfl, rfl, rfl⟩ ⟨by omega, by omega⟩ (fun _ => Rv rfl rfl GR_nil) (fun b21 => ?_);refine GT_store (vs := [_]) (l' := [_]) rfl rfl rfl rfl rfl rfl rfl sz_43 rfl rfl (Nat.le_of_ble_eq_true rfl) rfl (Rv rfl rfl GR_nil) ?_;refine ZS [_] [_] rfl rfl sz_231 rfl rfl rfl ?_;refine GT_nil ?_
                exact GE_to (hk (b2, b4, b5, b19, b21) trivial) ⟨rfl, rfl, rfl, rfl, rfl, trivial⟩ (HS.cons rfl (HS.cons rfl (HS.cons rfl (HS.cons rfl (HS.cons rfl HS.nil)))))
              · refine GT_store (vs := [_]) (l' := [_]) rfl rfl rfl rfl rfl rfl rfl sz_43 rfl rfl (Nat.le_of_ble_eq_true rfl) rfl (Rv rfl rfl GR_nil) ?_;refine GT_makeSlice rfl rfl rfl rfl rfl rfl rfl Tryz.underlying231 zc_235 sz_235 by_235 ⟨rfl, rfl, rfl⟩ ⟨by omega, by omega⟩ (fun _ => Rv rfl rfl GR_nil) (fun b21 => ?_);refine ZS [_] [_] rfl rfl sz_231 rfl rfl rfl ?_;refine GT_nil ?_
                exact GE_to (hk (b2, b4, b5, b19, b21) trivial) ⟨rfl, rfl, rfl, rfl, rfl, trivial⟩ (HS.cons rfl (HS.cons rfl (HS.cons rfl (HS.cons rfl (HS.cons rfl HS.nil)))))
          · refine GT_br ?_ ?_
            · refine GT_makeSlice rfl rfl rfl rfl rfl rfl rfl Tryz.underlying231 zc_235 sz_235 by_235 ⟨rfl, rfl, rfl⟩ ⟨by omega, by omega⟩ (fun _ => Rv rfl rfl GR_nil) (fun b21 => ?_);refine GT_br ?_ ?_
              · refine GT_makeSlice rfl rfl rfl rfl rfl rfl rfl Tryz.underlying43 zc_2 sz_2 by_2 ⟨rfl, rfl, rfl⟩ ⟨by omega, by omega⟩ (fun _ => Rv rfl rfl GR_nil) (fun b19 => ?_);refine GT_alloc rfl rfl rfl rfl rfl zc_43 (fun _ => Rv rfl rfl (Rv rfl rfl GR_nil)) (fun b4 => ?_);refine GT_store (vs := [_]) (l' := [_]) rfl rfl rfl rfl rfl rfl rfl sz_43 rfl rfl (Nat.le_of_ble_eq_true rfl) rfl (Rv rfl rfl GR_nil) ?_;refine ZS [_] [_] rfl rfl sz_231 rfl rfl rfl ?_;refine GT_nil ?_
                exact GE_to (hk (b2, b4, b5, b19, b21) trivial) ⟨rfl, rfl, rfl, rfl, rfl, trivial⟩ (HS.cons rfl (HS.cons rfl (HS.cons rfl (HS.cons rfl (HS.cons rfl HS.nil)))))
              · refine GT_alloc rfl rfl rfl rfl rfl zc_43 (fun _ => Rv rfl rfl (Rv rfl rfl GR_nil)) (fun b4 => ?_);refine GT_makeSlice rfl rfl rfl rfl rfl rfl rfl Tryz.underlying43 zc_2 sz_2 by_2 ⟨rfl, rfl, rfl⟩ ⟨by omega, by omega⟩ (fun _ => Rv rfl rfl GR_nil) (fun b19 => ?_);refine GT_store (vs := [_]) (l' := [_]) rfl rfl rfl rfl rfl rfl rfl sz_43 rfl rfl (Nat.le_of_ble_eq_true rfl) rfl (Rv rfl rfl GR_nil) ?_;refine ZS [_] [_] rfl rfl sz_231 rfl rfl rfl ?_;refine GT_nil ?_
                exact GE_to (hk (b2, b4, b5, b19, b21) trivial) ⟨rfl, rfl, rfl, rfl, rfl, trivial⟩ (HS.cons rfl (HS.cons rfl (HS.cons rfl (HS.cons rfl (HS.cons rfl HS.nil)))))
            · refine GT_alloc rfl rfl rfl rfl rfl zc_43 (fun _ => Rv rfl rfl (Rv rfl rfl GR_nil)) (fun b4 => ?_);refine GT_br ?_ ?_
              · refine GT_makeSlice rfl rfl rfl rfl rfl rfl rfl Tryz.underlying43 zc_2 sz_2 by_2 ⟨rfl, rfl, rfl⟩ ⟨by omega, by omega⟩ (fun _ => Rv rfl rfl GR_nil) (fun b19 => ?_);refine GT_br ?_ ?_
                · refine GT_makeSlice rfl rfl rfl rfl rfl rfl rfl Tryz.underlying231 zc_235 sz_235 by_235 ⟨rfl, rfl, rfl⟩ ⟨by omega, by omega⟩ (fun _ => Rv rfl rfl GR_nil) (fun b21 => ?_);refine GT_store (vs := [_]) (l' := [_]) rfl rfl rfl rfl rfl rfl rfl sz_43 rfl rfl (Nat.le_of_ble_eq_true rfl) rfl (Rv rfl rfl GR_nil) ?_;refine ZS [_] [_] rfl rfl sz_231 rfl rfl rfl ?_;refine GT_nil ?_
                  exact GE_to (hk (b2, b4, b5, b19, b21) trivial) ⟨rfl, rfl, rfl, rfl, rfl, trivial⟩ (HS.cons rfl (HS.cons rfl (HS.cons rfl (HS.cons rfl (HS.cons rfl HS.nil)))))
                · refine GT_store (vs := [_]) (l' := [_]) rfl rfl rfl rfl rfl rfl rfl sz_43 rfl rfl (Nat.le_of_ble_eq_true rfl) rfl (Rv rfl rfl GR_nil) ?_;refine GT_makeSlice rfl rfl rfl rfl rfl rfl rfl Tryz.underlying231 zc_235 sz_235 by_235 ⟨rfl, rfl, rfl⟩ ⟨by omega, by omega⟩ (fun _ => Rv rfl rfl GR_nil) (fun b21 => ?_);refine ZS [_] [_] rfl rfl sz_231 rfl rfl rfl ?_;refine GT_nil ?_
                  exact GE_to (hk (b2, b4, b5, b19, b21) trivial) ⟨rfl, rfl, rfl, rfl, rfl, trivial⟩ (HS.cons rfl (HS.cons rfl (HS.cons rfl (HS.cons rfl (HS.cons rfl HS.nil)))))
              · refine GT_makeSlice rfl rfl rfl rfl rfl rfl rfl Tryz.underlying231 zc_235 sz_235 by_235 ⟨rfl, rfl, rfl⟩ ⟨by omega, by omega⟩ (fun _ => Rv rfl rfl GR_nil) (fun b21 => ?_);refine GT_makeSlice rfl rfl rfl rfl rfl rfl rfl Tryz.underlying43 zc_2 sz_2 by_2 ⟨rfl, rfl, rfl⟩ ⟨by omega, by omega⟩ (fun _ => Rv rfl rfl GR_nil) (fun b19 => ?_);refine GT_store (vs := [_]) (l' := [_]) rfl rfl rfl rfl rfl rfl rfl sz_43 rfl rfl (Nat.le_of_ble_eq_true rfl) rfl (Rv rfl rfl GR_nil) ?_;refine ZS [_] [_] rfl rfl sz_231 rfl rfl rfl ?_;refine GT_nil ?_
                exact GE_to (hk (b2, b4, b5, b19, b21) trivial) ⟨rfl, rfl, rfl, rfl, rfl, trivial⟩ (HS.cons rfl (HS.cons rfl (HS.cons rfl (HS.cons rfl (HS.cons rfl HS.nil)))))
end Go.Proofs.YtncleikbggjmjaaGreatDoor.Lathe
/- The lathe's rounds and the reference's sweeps come to the same radii, if there are any. -/
namespace Go.Proofs.YtncleikbggjmjaaGreatDoor.Lathe
open Go.Sx
def val (r : List Int) (i : Int) : Int := r.getD i.toNat default
def KeepsE (b : Blank) (l : List Pt) (r : Int → Int) : Prop := ∀ x, IsEdge b l x → r x.to ≤ r x.frm + x.wt
structure Best (b : Blank) (l : List Pt) (r : List Int) : Prop where
  len : r.length = l.length
  keeps : KeepsE b l (val r)
  rim : ∀ i, In l.length i → val r i ≤ r0 b l i
  most : ∀ r', KeepsE b l r' → (∀ i, In l.length i → r' i ≤ r0 b l i) → ∀ i, In l.length i → r' i ≤ val r i
theorem Best.unique {b : Blank} {l : List Pt} {r r' : List Int} (h : Best b l r) (h' : Best b l r') : r = r' := by
  apply List.ext_getElem (by rw [h.len, h'.len])
  intro i h1 h2
  have hi : In l.length (i : Int) := ⟨by omega, by have := h.len; omega⟩
  have e1 := h.most _ h'.keeps h'.rim i hi
  have e2 := h'.most _ h.keeps h.rim i hi
  simp only [val, Int.toNat_natCast, List.getD, List.getElem?_eq_getElem h1, List.getElem?_eq_getElem h2, Option.getD_some] at e1 e2
  omega
section
variable {b : Blank} {l : List Pt} {E : List Edge}
theorem none_of_circle {s : Srch} {p t : Nat} {rho tau : Int → Nat} (hE : Edges l.length E) (hmem : ∀ x, x ∈ E → IsEdge b l x) (h : Inv l.length E (r0 b l) (e0 b l) s p t E rho tau) (hp : l.length ≤ p) (hc : s.ch ≠ -1) : ¬ ∃ r, KeepsE b l r := by
  rintro ⟨r, hr⟩
  have hto : ∀ i, In l.length i → Lst s i ∈ E → (Lst s i).to = i := by
    intro i hi hm
    by_cases h0 : rho i = 0
    · rw [(h.zero i hi h0).1]; rfl
    · exact (h.anc i hi (by omega)).2.1
  obtain ⟨g1, g2, m, hm0, hmn, hmb⟩ := h.circle hE hp hc
  have hk := kept_sum (E := E) (s := s) (v := back s.last l.length s.ch) (r' := r) (fun x hx => hr x (hmem x hx)) m (fun i _ => by
    rw [← back_add]
    exact ⟨(g2 _).1, hto _ (g1 _) (g2 _).1⟩)
  have hb := circle_below (s := s) (tau := tau) (v := back s.last l.length s.ch) (fun i => by
    rw [← back_add, ← back_add]
    exact (g2 _).2) hm0 hmb
  rw [hmb] at hk
  omega
theorem best_of_settled {s : Srch} {p t : Nat} {rho tau : Int → Nat} (hE : Edges l.length E) (hmem : ∀ x, IsEdge b l x → x ∈ E) (h : Inv l.length E (r0 b l) (e0 b l) s p t E rho tau) (hc : s.ch = -1) (hle : ∀ i, In l.length i → R s i ≤ r0 b l i) (hm : ∀ r', KeepsE b l r' → (∀ i, In l.length i → r' i ≤ r0 b l i) → ∀ i, In l.length i → r' i ≤ R s i) : Best b l s.r :=
  ⟨h.rl, fun x hx => h.settled hE hc x (hmem x hx), hle, hm⟩
/-! what holds of r from round to round: it is nowhere above the first one, nor below what keeps the rules -/
structure Mid (b : Blank) (l : List Pt) (r : List Int) : Prop where
  len : r.length = l.length
  le : ∀ i, In l.length i → val r i ≤ r0 b l i
  ge : ∀ r', KeepsE b l r' → (∀ i, In l.length i → r' i ≤ r0 b l i) → ∀ i, In l.length i → r' i ≤ val r i
theorem Mid.start : Mid b l (start b l) := ⟨start_length b l, fun i hi => Int.le_of_eq (start_R (L := []) (c := 0) hi), fun r' _ h i hi => by have := h i hi; have e : val (Go.Proofs.YtncleikbggjmjaaGreatDoor.Lathe.start b l) i = r0 b l i := start_R (L := []) (c := 0) hi; rw [e]; exact this⟩
theorem Mid.fold {r : List Int} {last : List Edge} (h : Mid b l r) (hE : Edges l.length E) (hmem : ∀ x, x ∈ E → IsEdge b l x) : Mid b l (E.foldl relax ⟨r, last, -1⟩).r :=
  ⟨by rw [foldl_rlen]; exact h.len, fun i hi => Int.le_trans (foldl_below E ⟨r, last, -1⟩ h.len hE i hi) (h.le i hi), fun r' hk hr i hi => foldl_above (r' := r') E ⟨r, last, -1⟩ h.len hE (fun x hx => hk x (hmem x hx)) (h.ge r' hk hr) i hi⟩
theorem rounds_mid (hE : Edges l.length (edgeList b l)) : ∀ (f : Nat) (r : List Int) (last : List Edge), Mid b l r → Mid b l (rounds b l f r last).r
  | 0, r, last, h => h
  | f + 1, r, last, h => by
    have h1 : Mid b l (round b l r last).r := h.fold hE (fun x hx => mem_edgeList.1 hx)
    by_cases hc : (round b l r last).ch = -1
    · rw [rounds_stop hc]; exact h1
    · by_cases hf : f = 0
      · subst hf; rw [rounds_last]; exact h1
      · rw [rounds_go hc hf]; exact rounds_mid hE f _ _ h1
end
theorem settled_best {b : Blank} {l : List Pt} (hb : b.ok = true) (hp : PtB l) : ((settled b l).ch = -1 ∧ Best b l (settled b l).r) ∨ ((settled b l).ch ≠ -1 ∧ ¬ ∃ r, KeepsE b l r) := by
  have hE := edges_edgeList hb hp
  obtain ⟨p, t, rho, tau, h1, h2, _⟩ := settled_inv hb hp
  have hm : Mid b l (settled b l).r := rounds_mid hE _ _ _ Mid.start
  by_cases hc : (settled b l).ch = -1
  · exact .inl ⟨hc, best_of_settled hE (fun x hx => mem_edgeList.2 hx) h1 hc hm.le hm.ge⟩
  · exact .inr ⟨hc, none_of_circle hE (fun x hx => mem_edgeList.1 hx) h1 (h2 hc) hc⟩
/-! the sweeps of the reference -/
def into (b : Blank) (l : List Pt) (i : Nat) : List Edge := optE (edgeOf b l 3 i) ++ (optE (edgeOf b l 5 i) ++ if i + 1 < l.length then optE (edgeOf b l 4 ((i : Int) + 1)) else [])
def sweepList (b : Blank) (l : List Pt) (k : Nat) : List Edge := (List.range k).flatMap (into b l)
theorem mem_sweepList {b : Blank} {l : List Pt} {x : Edge} : x ∈ sweepList b l l.length ↔ IsEdge b l x := by
  unfold sweepList IsEdge
  simp only [List.mem_flatMap, List.mem_range, into, List.mem_append, mem_optE]
  constructor
  · rintro ⟨i, hi, h | h | h⟩
    · exact ⟨3, i, .inl rfl, ⟨by omega, by omega⟩, h⟩
    · exact ⟨5, i, .inr (.inr rfl), ⟨by omega, by omega⟩, h⟩
    · split at h
      · exact ⟨4, (i : Int) + 1, .inr (.inl rfl), ⟨by omega, by omega⟩, mem_optE.1 h⟩
      · cases h
  · rintro ⟨rule, i, hr, hi, h1, h2⟩
    have hi' := hi
    unfold In at hi'
    have e1 : ((i.toNat : Nat) : Int) = i := by omega
    rcases hr with rfl | rfl | rfl
    · exact ⟨i.toNat, by omega, .inl (by rw [e1]; exact ⟨h1, h2⟩)⟩
    · have h3 : 0 < i := by rw [edgeOf_four hi] at h1; simpa using h1
      have e : (((i.toNat - 1 : Nat) : Int) + 1) = i := by omega
      exact ⟨i.toNat - 1, by omega, .inr (.inr (by rw [if_pos (by omega), e]; exact mem_optE.2 ⟨h1, h2⟩))⟩
    · exact ⟨i.toNat, by omega, .inr (.inl (by rw [e1]; exact ⟨h1, h2⟩))⟩
theorem edges_sweep {b : Blank} {l : List Pt} (hb : b.ok = true) (hp : PtB l) : Edges l.length (sweepList b l l.length) := fun x hx => by
  have := isEdge_facts hb hp (mem_sweepList.1 hx)
  exact ⟨this.1, this.2.1, this.2.2.1⟩
theorem relax_into {r : List Int} {L : List Edge} {i : Nat} {v c : Int} {x : Edge} (hi : i < r.length) (ht : x.to = i) (hf : 0 ≤ x.frm) (hne : x.frm ≠ x.to) : ∃ L' c', relax ⟨r.set i v, L, c⟩ x = ⟨r.set i (min v (val r x.frm + x.wt)), L', c'⟩ ∧ (c' ≠ -1 ↔ c ≠ -1 ∨ val r x.frm + x.wt < v) := by
  have h1 : R ⟨r.set i v, L, c⟩ x.to = v := by unfold R; rw [ht]; simp [List.getD, hi]
  have h2 : R ⟨r.set i v, L, c⟩ x.frm = val r x.frm := by unfold R val; dsimp only; rw [getD_set_ne (by omega)]
  by_cases hr : R ⟨r.set i v, L, c⟩ x.to ≤ R ⟨r.set i v, L, c⟩ x.frm + x.wt
  · rw [relax_no hr]
    rw [h1, h2] at hr
    exact ⟨L, c, by rw [Int.min_eq_left hr], by constructor; exact .inl; rintro (h | h); exact h; omega⟩
  · rw [relax_yes hr, h2]
    rw [h1, h2] at hr
    refine ⟨_, _, by rw [ht, Int.toNat_natCast, List.set_set, Int.min_eq_right (by omega)], ?_⟩
    constructor
    · intro _; right; omega
    · intro _; omega
theorem relax_opt {r : List Int} {L : List Edge} {i : Nat} {v c : Int} {e : Edge × Bool} (hi : i < r.length) (h : e.2 = true → e.1.to = i ∧ 0 ≤ e.1.frm ∧ e.1.frm ≠ e.1.to) : ∃ L' c', (optE e).foldl relax ⟨r.set i v, L, c⟩ = ⟨r.set i (if e.2 = true then min v (val r e.1.frm + e.1.wt) else v), L', c'⟩ ∧ (c' ≠ -1 ↔ c ≠ -1 ∨ e.2 = true ∧ val r e.1.frm + e.1.wt < v) := by
  unfold optE
  by_cases he : e.2 = true
  · obtain ⟨h1, h2, h3⟩ := h he
    obtain ⟨L', c', g1, g2⟩ := relax_into (L := L) (v := v) (c := c) hi h1 h2 h3
    rw [if_pos he, if_pos he]
    exact ⟨L', c', g1, by simpa [he] using g2⟩
  · rw [if_neg he, if_neg he]
    exact ⟨L, c, rfl, by simp [he]⟩
theorem into_most {b : Blank} {l : List Pt} {r : List Int} {L : List Edge} {i : Nat} {c : Int} (hb : b.ok = true) (hn : r.length = l.length) (hi : i < l.length) : ∃ L' c', (into b l i).foldl relax ⟨r, L, c⟩ = ⟨r.set i (most b l r i), L', c'⟩ ∧ (c' ≠ -1 ↔ c ≠ -1 ∨ most b l r i < r.getD i default) := by
  rw [Blank.ok_iff] at hb
  have hIn : In l.length (i : Int) := ⟨by omega, by omega⟩
  have e0 : r = r.set i (r.getD i default) := by
    apply List.ext_getElem?
    intro q
    rw [List.getElem?_set]
    split
    · rename_i e; subst e; simp [List.getD, hn, hi]
    · rfl
  have hs : (⟨r, L, c⟩ : Srch) = ⟨r.set i (r.getD i default), L, c⟩ := by rw [← e0]
  rw [hs]
  unfold into
  rw [List.foldl_append, List.foldl_append]
  obtain ⟨L1, c1, g1, g2⟩ := relax_opt (r := r) (L := L) (c := c) (v := r.getD i default) (i := i) (e := edgeOf b l 3 i) (by omega) (by rw [edgeOf_three hIn]; simp only [decide_eq_true_eq]; intro h; exact ⟨trivial, by omega, by omega⟩)
  rw [g1]
  have m1 : (if (edgeOf b l 3 i).2 = true then min (r.getD i default) (val r (edgeOf b l 3 i).1.frm + (edgeOf b l 3 i).1.wt) else r.getD i default) = most1 b r i := by
    rw [edgeOf_three hIn]; unfold most1 val
    simp only [decide_eq_true_eq, show ((0 : Int) < (i : Int)) = (0 < i) by simp]
    rw [show ((i : Int) - 1).toNat = i - 1 by omega]
    split
    · congr 1; omega
    · rfl
  rw [m1]
  have k1 : ((edgeOf b l 3 i).2 = true ∧ val r (edgeOf b l 3 i).1.frm + (edgeOf b l 3 i).1.wt < r.getD i default) ↔ most1 b r i < r.getD i default := by
    rw [← m1]
    by_cases h : (edgeOf b l 3 i).2 = true
    · rw [if_pos h]; simp only [h, true_and]; omega
    · rw [if_neg h]; simp only [h]; simp
  obtain ⟨L2, c2, g3, g4⟩ := relax_opt (r := r) (L := L1) (c := c1) (v := most1 b r i) (i := i) (e := edgeOf b l 5 i) (by omega) (by
    rw [edgeOf_five hIn]; split
    · intro h; cases h
    · intro _; exact ⟨rfl, by dsimp only; omega, by dsimp only; omega⟩)
  rw [g3]
  have m2 : (if (edgeOf b l 5 i).2 = true then min (most1 b r i) (val r (edgeOf b l 5 i).1.frm + (edgeOf b l 5 i).1.wt) else most1 b r i) = most2 b l r i := by
    rw [edgeOf_five hIn]; unfold most2 val
    by_cases hper : (i : Int) < b.per
    · rw [if_pos hper, if_neg (by simp), if_neg (by omega)]
    · rw [if_neg hper, if_pos rfl, if_pos (by omega)]
      dsimp only
      rw [show ((i : Int) - b.per).toNat = i - b.per.toNat by omega, show ((i : Int)).toNat = i by omega]
      congr 1; omega
  rw [m2]
  have k2 : ((edgeOf b l 5 i).2 = true ∧ val r (edgeOf b l 5 i).1.frm + (edgeOf b l 5 i).1.wt < most1 b r i) ↔ most2 b l r i < most1 b r i := by
    rw [← m2]; split
    · rename_i h; simp only [h, true_and]; omega
    · rename_i h; simp only [h]; simp
  have hm12 : most2 b l r i ≤ most1 b r i := by unfold most2; split <;> omega
  have hm01 : most1 b r i ≤ r.getD i default := by unfold most1; split <;> omega
  by_cases hl : i + 1 < l.length
  · rw [if_pos hl]
    have hIn2 : In l.length ((i : Int) + 1) := ⟨by omega, by omega⟩
    obtain ⟨L3, c3, g5, g6⟩ := relax_opt (r := r) (L := L2) (c := c2) (v := most2 b l r i) (i := i) (e := edgeOf b l 4 ((i : Int) + 1)) (by omega) (by rw [edgeOf_four hIn2]; intro _; dsimp only; exact ⟨by omega, by omega, by omega⟩)
    rw [g5]
    have m3 : (if (edgeOf b l 4 ((i : Int) + 1)).2 = true then min (most2 b l r i) (val r (edgeOf b l 4 ((i : Int) + 1)).1.frm + (edgeOf b l 4 ((i : Int) + 1)).1.wt) else most2 b l r i) = most b l r i := by
      rw [edgeOf_four hIn2]; unfold most val
      rw [if_pos hl, if_pos (by rw [decide_eq_true_eq]; omega)]
      dsimp only
      rw [show ((i : Int) + 1).toNat = i + 1 by omega]
    rw [m3]
    refine ⟨L3, c3, rfl, ?_⟩
    have k3 : ((edgeOf b l 4 ((i : Int) + 1)).2 = true ∧ val r (edgeOf b l 4 ((i : Int) + 1)).1.frm + (edgeOf b l 4 ((i : Int) + 1)).1.wt < most2 b l r i) ↔ most b l r i < most2 b l r i := by
      rw [← m3]; split
      · rename_i h; simp only [h, true_and]; omega
      · rename_i h; simp only [h]; simp
    have hm23 : most b l r i ≤ most2 b l r i := by unfold most; split <;> omega
    rw [g6, k3, g4, k2, g2, k1]
    constructor
    · rintro (((h | h) | h) | h)
      · exact .inl h
      · right; omega
      · right; omega
      · right; omega
    · rintro (h | h)
      · exact .inl (.inl (.inl h))
      · by_cases q1 : most b l r i < most2 b l r i
        · exact .inr q1
        · by_cases q2 : most2 b l r i < most1 b r i
          · exact .inl (.inr q2)
          · exact .inl (.inl (.inr (by omega)))
  · rw [if_neg hl]
    have m3 : most b l r i = most2 b l r i := by unfold most; rw [if_neg hl]
    rw [m3]
    refine ⟨L2, c2, rfl, ?_⟩
    rw [g4, k2, g2, k1]
    constructor
    · rintro ((h | h) | h)
      · exact .inl h
      · right; omega
      · right; omega
    · rintro (h | h)
      · exact .inl (.inl h)
      · by_cases q2 : most2 b l r i < most1 b r i
        · exact .inr q2
        · exact .inl (.inr (by omega))
theorem sweepTo_len (b : Blank) (l : List Pt) : ∀ (k : Nat) (r : List Int), (sweepTo b l k r).1.length = r.length
  | 0, r => rfl
  | k + 1, r => by simp only [sweepTo, List.length_set]; exact sweepTo_len b l k r
theorem sweep_relax {b : Blank} {l : List Pt} {r : List Int} {L : List Edge} (hb : b.ok = true) (hn : r.length = l.length) : ∀ k, k ≤ l.length → ∃ L' c', (sweepList b l k).foldl relax ⟨r, L, -1⟩ = ⟨(sweepTo b l k r).1, L', c'⟩ ∧ (c' ≠ -1 ↔ (sweepTo b l k r).2 = true)
  | 0, _ => ⟨L, -1, rfl, by simp [sweepTo]⟩
  | k + 1, hk => by
    obtain ⟨L1, c1, g1, g2⟩ := sweep_relax hb hn k (by omega)
    have e : sweepList b l (k + 1) = sweepList b l k ++ into b l k := by simp [sweepList, List.range_succ]
    rw [e, List.foldl_append, g1]
    obtain ⟨L2, c2, g3, g4⟩ := into_most (L := L1) (c := c1) (r := (sweepTo b l k r).1) hb (by rw [sweepTo_len, hn]) (show k < l.length by omega)
    refine ⟨L2, c2, g3, ?_⟩
    rw [g4, g2]
    simp [sweepTo]
theorem grounds_best {b : Blank} {l : List Pt} (hb : b.ok = true) (hp : PtB l) : ∀ (f p t : Nat) (r : List Int) (L : List Edge) (rho tau : Int → Nat), Inv l.length (sweepList b l l.length) (r0 b l) (e0 b l) ⟨r, L, -1⟩ p t [] rho tau → Mid b l r → 0 < f → l.length + 1 ≤ p + f →
    (∃ r', grounds b l f r = some r' ∧ Best b l r') ∨ (grounds b l f r = none ∧ ¬ ∃ r, KeepsE b l r)
  | 0, _, _, _, _, _, _, _, _, h, _ => by omega
  | f + 1, p, t, r, L, rho, tau, h, hm, _, hpf => by
    have hE := edges_sweep hb hp
    obtain ⟨rho1, tau1, h1⟩ := h.round hE
    have hm1 := hm.fold (last := L) hE (fun x hx => mem_sweepList.1 hx)
    obtain ⟨L', c', g1, g2⟩ := sweep_relax (L := L) hb h.rl l.length (Nat.le_refl _)
    rw [g1] at h1 hm1
    have eg : grounds b l (f + 1) r = if (sweepTo b l l.length r).2 then grounds b l f (sweepTo b l l.length r).1 else some (sweepTo b l l.length r).1 := rfl
    rw [eg]
    by_cases hc : (sweepTo b l l.length r).2 = true
    · rw [if_pos hc]
      by_cases hf : f = 0
      · subst hf
        exact .inr ⟨rfl, none_of_circle hE (fun x hx => mem_sweepList.1 hx) h1 (by omega) (g2.2 hc)⟩
      · exact grounds_best hb hp f (p + 1) _ _ _ _ _ h1.next hm1 (by omega) (by omega)
    · rw [if_neg hc]
      have hc' : c' = -1 := by
        by_cases hq : c' = -1
        · exact hq
        · exact absurd (g2.1 hq) hc
      exact .inl ⟨_, rfl, best_of_settled hE (fun x hx => mem_sweepList.2 hx) h1 hc' hm1.le hm1.ge⟩
theorem greatest_best {b : Blank} {l : List Pt} (hb : b.ok = true) (hp : PtB l) : (∃ r', greatest b l = some r' ∧ Best b l r') ∨ (greatest b l = none ∧ ¬ ∃ r, KeepsE b l r) :=
  grounds_best hb hp (l.length + 2) 0 0 (start b l) (rimEdges b l) _ _ (start_inv b l _) Mid.start (by omega) (by omega)
end Go.Proofs.YtncleikbggjmjaaGreatDoor.Lathe
/- What the outermost cut is, and what the lathe's search has to do with it. -/
namespace Go.Proofs.YtncleikbggjmjaaGreatDoor.Lathe
open Go.Sx
def both (b : Blank) (l : List Pt) : Int := if b.ok then ptsCheck l else 2
theorem both_zero {b : Blank} {l : List Pt} : both b l = 0 ↔ b.ok = true ∧ l.length ≤ 4096 ∧ l.all ptOk = true := by
  unfold both ptsCheck
  constructor
  · intro h
    split at h
    · rename_i hb
      split at h
      · cases h
      · split at h
        · exact ⟨hb, by omega, by assumption⟩
        · cases h
    · cases h
  · rintro ⟨h1, h2, h3⟩
    rw [if_pos h1, if_neg (by omega), if_pos h3]
theorem both_bad {b : Blank} {l : List Pt} (h : b.ok = false) : both b l = 2 := by unfold both; rw [h]; rfl
theorem both_ok {b : Blank} {l : List Pt} (h : b.ok = true) : both b l = ptsCheck l := by unfold both; rw [h]; rfl
def coreAll (b : Blank) (l : List Pt) (r : List Int) : Bool := (List.range l.length).all fun i => decide (b.core ≤ r.getD i default + (l.getD i default).inn)
theorem coreAll_iff {b : Blank} {l : List Pt} {r : List Int} : coreAll b l r = true ↔ ∀ i, i < l.length → b.core ≤ r.getD i default + (l.getD i default).inn := by simp [coreAll]
def outer (b : Blank) (l : List Pt) : Option (List Int) := (greatest b l).bind fun r => if coreAll b l r then some r else none
def outE (b : Blank) (l : List Pt) : Int := if both b l = 0 then (if (outer b l).isSome then 0 else 15) else both b l
def outR (b : Blank) (l : List Pt) : List Int := if both b l = 0 then (outer b l).getD [] else []
theorem search_outer {b : Blank} {l : List Pt} {rad : List Int} {st : List Stp} (hb : b.ok = true) (hp : PtB l) (h : Search b l rad st) : (st = [] ∧ outer b l = some rad) ∨ (0 < st.length ∧ outer b l = none) := by
  have hw : ∀ i : Nat, i < l.length → (edgeOf b l 2 i).1.wt = (l.getD i default).inn - b.core := by
    intro i hi
    rw [edgeOf_two ⟨by omega, by omega⟩]; simp
  rcases settled_best hb hp with ⟨hc, hbest⟩ | ⟨hc, hno⟩
  · obtain ⟨r, hr, hbr⟩ : ∃ r, greatest b l = some r ∧ Best b l r := by
      rcases greatest_best hb hp with ⟨r, h1, h2⟩ | ⟨_, h2⟩
      · exact ⟨r, h1, h2⟩
      · exact absurd ⟨_, hbest.keeps⟩ h2
    obtain rfl := hbr.unique hbest
    rcases h with ⟨h1, _⟩ | ⟨_, _, i, hi, hlt, m, _, rfl⟩ | ⟨_, rfl, rfl, hge⟩
    · exact absurd hc h1
    · right
      refine ⟨by rw [List.length_reverse, wsteps_length]; omega, ?_⟩
      unfold outer; rw [hr]
      have : coreAll b l (settled b l).r = false := by
        cases hca : coreAll b l (settled b l).r with
        | false => rfl
        | true => have := coreAll_iff.1 hca i hi; rw [hw i hi] at hlt; omega
      simp [this]
    · left
      refine ⟨rfl, ?_⟩
      unfold outer; rw [hr]
      have : coreAll b l (settled b l).r = true := coreAll_iff.2 (fun i hi => by have := hge i hi; rw [hw i hi] at this; omega)
      simp [this]
  · rcases h with ⟨_, _, m, hm, rfl⟩ | ⟨h1, _⟩ | ⟨h1, _⟩
    · right
      refine ⟨by rw [List.length_reverse, csteps_length]; exact hm.1, ?_⟩
      rcases greatest_best hb hp with ⟨r, h1, h2⟩ | ⟨h1, _⟩
      · exact absurd ⟨_, h2.keeps⟩ hno
      · unfold outer; rw [h1]; rfl
    · exact absurd h1 hc
    · exact absurd h1 hc
theorem outE_of {b : Blank} {l : List Pt} (h : both b l = 0) {r : List Int} (h2 : outer b l = some r) : outE b l = 0 ∧ outR b l = r := by simp [outE, outR, h, h2]
theorem outE_none {b : Blank} {l : List Pt} (h : both b l = 0) (h2 : outer b l = none) : outE b l = 15 ∧ outR b l = [] := by simp [outE, outR, h, h2]
theorem outE_err {b : Blank} {l : List Pt} (h : both b l ≠ 0) : outE b l = both b l ∧ outR b l = [] := by simp [outE, outR, h]
end Go.Proofs.YtncleikbggjmjaaGreatDoor.Lathe
/- Which cuts keep the rules, in plain Lean. -/
namespace Go.Proofs.YtncleikbggjmjaaGreatDoor.Lathe
open Go.Sx
end Go.Proofs.YtncleikbggjmjaaGreatDoor.Lathe
/- Cuts that keep all rules; the outermost one. -/
namespace Go.Proofs.YtncleikbggjmjaaGreatDoor.Lathe
open Go.Sx
structure Keeps (b : Blank) (l : List Pt) (r : Int → Int) : Prop where
  edges : KeepsE b l r
  rim : ∀ i, In l.length i → r i ≤ r0 b l i
  core : ∀ i : Nat, i < l.length → b.core ≤ r i + (l.getD i default).inn
structure Top (b : Blank) (l : List Pt) (r : List Int) : Prop where
  len : r.length = l.length
  keeps : Keeps b l (val r)
  most : ∀ r', Keeps b l r' → ∀ i, In l.length i → r' i ≤ val r i
theorem Top.unique {b : Blank} {l : List Pt} {r r' : List Int} (h : Top b l r) (h' : Top b l r') : r = r' := by
  apply List.ext_getElem (by rw [h.len, h'.len])
  intro i h1 h2
  have hi : In l.length (i : Int) := ⟨by omega, by have := h.len; omega⟩
  have e1 := h.most _ h'.keeps i hi
  have e2 := h'.most _ h.keeps i hi
  simp only [val, Int.toNat_natCast, List.getD, List.getElem?_eq_getElem h1, List.getElem?_eq_getElem h2, Option.getD_some] at e1 e2
  omega
end Go.Proofs.YtncleikbggjmjaaGreatDoor.Lathe
