/- Edges that are relaxed in rounds, in plain Lean: what the rounds keep. -/
import Derived.Test.YtacmnmcaeflflaaLaT
namespace Go.Proofs.Ytacmnmcaeflflaa
open Go.Sx

/-- no hole holds so many pigeons -/
theorem pigeon : ∀ (n : Nat) (f : Nat → Nat), (∀ i, i ≤ n → f i < n) → ∃ i j, i < j ∧ j ≤ n ∧ f i = f j
  | 0, f, h => absurd (h 0 (Nat.le_refl _)) (by omega)
  | n + 1, f, h => by
    by_cases he : ∃ i, i ≤ n ∧ f i = f (n + 1)
    · obtain ⟨i, hi, e⟩ := he
      exact ⟨i, n + 1, by omega, by omega, e⟩
    · have hne : ∀ i, i ≤ n → f i ≠ f (n + 1) := fun i hi e => he ⟨i, hi, e⟩
      obtain ⟨i, j, hij, hj, e⟩ := pigeon n (fun i => if f i = n then f (n + 1) else f i) (by
        intro i hi
        have h1 := h i (by omega)
        have h2 := h (n + 1) (by omega)
        have h3 := hne i hi
        split <;> omega)
      refine ⟨i, j, hij, by omega, ?_⟩
      have h1 := hne i (by omega)
      have h2 := hne j hj
      split at e <;> split at e <;> omega

section
variable {E : List Edge} {n : Nat}
def R (s : Srch) (i : Int) : Int := s.r.getD i.toNat default
def Lst (s : Srch) (i : Int) : Edge := s.last.getD i.toNat default
def In (n : Nat) (i : Int) : Prop := 0 ≤ i ∧ i < (n : Int)
/-- edges between n places -/
def Edges (n : Nat) (E : List Edge) : Prop := ∀ x ∈ E, In n x.frm ∧ In n x.to ∧ x.frm ≠ x.to

theorem relax_no {s : Srch} {x : Edge} (h : R s x.to ≤ R s x.frm + x.wt) : relax s x = s := by unfold relax; exact if_pos h
theorem relax_yes {s : Srch} {x : Edge} (h : ¬ R s x.to ≤ R s x.frm + x.wt) : relax s x = ⟨s.r.set x.to.toNat (R s x.frm + x.wt), s.last.set x.to.toNat x, x.to⟩ := by unfold relax; exact if_neg h
theorem relax_rlen (s : Srch) (x : Edge) : (relax s x).r.length = s.r.length := by unfold relax; split <;> simp
theorem relax_llen (s : Srch) (x : Edge) : (relax s x).last.length = s.last.length := by unfold relax; split <;> simp
theorem foldl_rlen : ∀ (E : List Edge) (s : Srch), (E.foldl relax s).r.length = s.r.length
  | [], _ => rfl
  | x :: E, s => by rw [List.foldl_cons, foldl_rlen E, relax_rlen]
theorem foldl_llen : ∀ (E : List Edge) (s : Srch), (E.foldl relax s).last.length = s.last.length
  | [], _ => rfl
  | x :: E, s => by rw [List.foldl_cons, foldl_llen E, relax_llen]
theorem R_set {s : Srch} {c v : Int} {y : Int} {L : List Edge} {i : Int} (hc : In n c) (hn : s.r.length = n) (hi : In n i) : R ⟨s.r.set c.toNat y, L, v⟩ i = if i = c then y else R s i := by
  unfold In at *
  simp only [R, List.getD, List.getElem?_set]
  by_cases h : i = c
  · subst h; rw [if_pos rfl, if_pos (by omega), if_pos rfl]; rfl
  · rw [if_neg (by omega), if_neg h]
theorem Lst_set {s : Srch} {c v : Int} {y : Edge} {L : List Int} {i : Int} (hc : In n c) (hn : s.last.length = n) (hi : In n i) : Lst ⟨L, s.last.set c.toNat y, v⟩ i = if i = c then y else Lst s i := by
  unfold In at *
  simp only [Lst, List.getD, List.getElem?_set]
  by_cases h : i = c
  · subst h; rw [if_pos rfl, if_pos (by omega), if_pos rfl]; rfl
  · rw [if_neg (by omega), if_neg h]

/-- What holds in round p, when the edges pre are done. rho: the round in which a place was last changed, and 1; tau: when. -/
structure Inv (n : Nat) (E : List Edge) (r0 : Int → Int) (e0 : Int → Edge) (s : Srch) (p t : Nat) (pre : List Edge) (rho tau : Int → Nat) : Prop where
  rl : s.r.length = n
  ll : s.last.length = n
  zero : ∀ i, In n i → rho i = 0 → Lst s i = e0 i ∧ R s i = r0 i
  anc : ∀ i, In n i → 0 < rho i → Lst s i ∈ E ∧ (Lst s i).to = i ∧ R s (Lst s i).frm + (Lst s i).wt ≤ R s i ∧ (R s i = R s (Lst s i).frm + (Lst s i).wt → tau (Lst s i).frm < tau i) ∧ rho i ≤ rho (Lst s i).frm + 1
  top : ∀ i, In n i → rho i ≤ p + 1 ∧ tau i ≤ t
  old : ∀ x ∈ E, R s x.to ≤ R s x.frm + x.wt ∨ p ≤ rho x.frm
  new : ∀ x ∈ pre, R s x.to ≤ R s x.frm + x.wt ∨ p + 1 ≤ rho x.frm
  ch : (s.ch = -1 ∧ ∀ i, In n i → rho i ≤ p) ∨ (In n s.ch ∧ rho s.ch = p + 1)

theorem Inv.step {r0 : Int → Int} {e0 : Int → Edge} {s : Srch} {p t : Nat} {pre : List Edge} {rho tau : Int → Nat} (h : Inv n E r0 e0 s p t pre rho tau) (hE : Edges n E) (hpre : ∀ y ∈ pre, y ∈ E) {x : Edge} (hx : x ∈ E) : ∃ rho tau, Inv n E r0 e0 (relax s x) p (t + 1) (pre ++ [x]) rho tau := by
  obtain ⟨hf, ht, hne⟩ := hE x hx
  by_cases hr : R s x.to ≤ R s x.frm + x.wt
  · rw [relax_no hr]
    refine ⟨rho, tau, h.rl, h.ll, h.zero, h.anc, fun i hi => ?_, h.old, fun y hy => ?_, h.ch⟩
    · have := h.top i hi; omega
    · rw [List.mem_append, List.mem_singleton] at hy
      rcases hy with hy | rfl
      · exact h.new y hy
      · exact .inl hr
  · rw [relax_yes hr]
    have hR := fun (i : Int) (hi : In n i) => R_set (s := s) (v := x.to) (y := R s x.frm + x.wt) (L := s.last.set x.to.toNat x) ht h.rl hi
    have hL := fun (i : Int) (hi : In n i) => Lst_set (s := s) (v := x.to) (y := x) (L := s.r.set x.to.toNat (R s x.frm + x.wt)) ht h.ll hi
    have hpx : p ≤ rho x.frm := (h.old x hx).resolve_left hr
    have hle : ∀ i, In n i → R ⟨s.r.set x.to.toNat (R s x.frm + x.wt), s.last.set x.to.toNat x, x.to⟩ i ≤ R s i := by
      intro i hi; rw [hR i hi]; split
      · rename_i e; subst e; omega
      · omega
    refine ⟨fun i => if i = x.to then p + 1 else rho i, fun i => if i = x.to then t + 1 else tau i, by simp [h.rl], by simp [h.ll], fun i hi h0 => ?_, fun i hi h0 => ?_, fun i hi => ?_, fun y hy => ?_, fun y hy => ?_, .inr ⟨ht, if_pos rfl⟩⟩
    · by_cases e : i = x.to
      · simp [e] at h0
      · simp only [e, if_false] at h0
        rw [hL i hi, hR i hi, if_neg e, if_neg e]
        exact h.zero i hi h0
    · by_cases e : i = x.to
      · subst e
        rw [hL _ hi, if_pos rfl, hR _ hi, if_pos rfl, hR _ hf, if_neg hne]
        simp only [if_true, hne, if_false]
        have := (h.top x.frm hf).2
        exact ⟨hx, trivial, Int.le_refl _, fun _ => by omega, by omega⟩
      · simp only [e, if_false] at h0 ⊢
        rw [hL i hi, if_neg e, hR i hi, if_neg e]
        obtain ⟨h1, h2, h3, h4, h5⟩ := h.anc i hi h0
        obtain ⟨g1, g2, g3⟩ := hE _ h1
        refine ⟨h1, h2, ?_, fun he => ?_, ?_⟩
        · have := hle _ g1; omega
        · rw [hR _ g1] at he
          by_cases e2 : (Lst s i).frm = x.to
          · rw [if_pos e2] at he; rw [e2] at h3; omega
          · rw [if_neg e2] at he ⊢; exact h4 he
        · by_cases e2 : (Lst s i).frm = x.to
          · rw [if_pos e2]; have := (h.top i hi).1; omega
          · rw [if_neg e2]; exact h5
    · by_cases e : i = x.to
      · simp [e]
      · simp only [e, if_false]; have := h.top i hi; omega
    · obtain ⟨g1, g2, g3⟩ := hE _ hy
      by_cases e : y.frm = x.to
      · right; simp [e]
      · simp only [e, if_false]
        rw [hR _ g1, if_neg e]
        have := hle _ g2
        rcases h.old y hy with h1 | h1
        · left; omega
        · exact .inr h1
    · rw [List.mem_append, List.mem_singleton] at hy
      rcases hy with hy | rfl
      · obtain ⟨g1, g2, g3⟩ := hE _ (hpre y hy)
        by_cases e : y.frm = x.to
        · right; simp [e]
        · simp only [e, if_false]
          rw [hR _ g1, if_neg e]
          have := hle _ g2
          rcases h.new y hy with h1 | h1
          · left; omega
          · exact .inr h1
      · left
        rw [hR _ ht, if_pos rfl, hR _ hf, if_neg hne]; omega

theorem Inv.steps {r0 : Int → Int} {e0 : Int → Edge} (hE : Edges n E) : ∀ (post : List Edge) {s : Srch} {p t : Nat} {pre : List Edge} {rho tau : Int → Nat}, Inv n E r0 e0 s p t pre rho tau → pre ++ post = E → ∃ rho tau, Inv n E r0 e0 (post.foldl relax s) p (t + post.length) E rho tau
  | [], s, p, t, pre, rho, tau, h, e => by rw [List.append_nil] at e; subst e; exact ⟨rho, tau, h⟩
  | x :: post, s, p, t, pre, rho, tau, h, e => by
    have hx : x ∈ E := by rw [← e]; simp
    obtain ⟨rho1, tau1, h1⟩ := h.step hE (fun y hy => by rw [← e]; exact List.mem_append_left _ hy) hx
    obtain ⟨rho2, tau2, h2⟩ := Inv.steps hE post h1 (by simpa using e)
    exact ⟨rho2, tau2, by rw [List.foldl_cons, List.length_cons, show t + (post.length + 1) = t + 1 + post.length by omega]; exact h2⟩
theorem Inv.round {r0 : Int → Int} {e0 : Int → Edge} {s : Srch} {p t : Nat} {rho tau : Int → Nat} (hE : Edges n E) (h : Inv n E r0 e0 s p t [] rho tau) : ∃ rho tau, Inv n E r0 e0 (E.foldl relax s) p (t + E.length) E rho tau := Inv.steps hE E h rfl
theorem Inv.next {r0 : Int → Int} {e0 : Int → Edge} {s : Srch} {p t : Nat} {rho tau : Int → Nat} (h : Inv n E r0 e0 s p t E rho tau) : Inv n E r0 e0 ⟨s.r, s.last, -1⟩ (p + 1) t [] rho tau :=
  ⟨h.rl, h.ll, h.zero, h.anc, fun i hi => by have := h.top i hi; omega, h.new, (fun y hy => by cases hy), .inl ⟨rfl, fun i hi => (h.top i hi).1⟩⟩

/-- nothing changed in a round: all edges hold -/
theorem Inv.settled {r0 : Int → Int} {e0 : Int → Edge} {s : Srch} {p t : Nat} {rho tau : Int → Nat} (hE : Edges n E) (h : Inv n E r0 e0 s p t E rho tau) (hc : s.ch = -1) : ∀ x ∈ E, R s x.to ≤ R s x.frm + x.wt := by
  intro x hx
  rcases h.ch with ⟨_, h1⟩ | ⟨h1, _⟩
  · rcases h.new x hx with h2 | h2
    · exact h2
    · have := h1 _ (hE x hx).1; omega
  · rw [hc] at h1; unfold In at h1; omega

/-- the sum of the weights of the first m steps back -/
def wsum (last : List Edge) (v : Int) : Nat → Int
  | 0 => 0
  | m + 1 => wsum last v m + (last.getD (back last m v).toNat default).wt
theorem wsum_shift (last : List Edge) (v : Int) (hb : ∀ (k : Nat) (v : Int), back last (k + 1) v = back last k (par last v)) : ∀ m, wsum last v (m + 1) = (last.getD v.toNat default).wt + wsum last (par last v) m
  | 0 => by simp [wsum, back]
  | m + 1 => by
    have ih := wsum_shift last v hb m
    have e : wsum last v (m + 1 + 1) = wsum last v (m + 1) + (last.getD (back last (m + 1) v).toNat default).wt := rfl
    have e2 : wsum last (par last v) (m + 1) = wsum last (par last v) m + (last.getD (back last m (par last v)).toNat default).wt := rfl
    rw [e, ih, hb, e2]; omega
/-- the way back from a place ends at the rim -/
theorem Inv.way {r0 : Int → Int} {e0 : Int → Edge} {s : Srch} {p t : Nat} {rho tau : Int → Nat} (hE : Edges n E) (h : Inv n E r0 e0 s p t E rho tau) (hs : ∀ x ∈ E, R s x.to ≤ R s x.frm + x.wt) (he0 : ∀ i, (e0 i).frm = -1) (he1 : ∀ i, (e0 i).wt = r0 i) :
    ∀ (T : Nat) (v : Int), In n v → tau v ≤ T → ∃ m, m ≤ T + 1 ∧ 0 < m ∧ back s.last m v = -1 ∧ (∀ i, i < m → In n (back s.last i v)) ∧ (∀ i, i + 1 < m → Lst s (back s.last i v) ∈ E) ∧ Lst s (back s.last (m - 1) v) = e0 (back s.last (m - 1) v) ∧ wsum s.last v m ≤ R s v ∧ (∀ i, i + 1 < m → (Lst s (back s.last i v)).to = back s.last i v) := by
  have hb : ∀ (k : Nat) (v : Int), back s.last (k + 1) v = back s.last k (par s.last v) := by
    intro k v
    induction k with
    | zero => rfl
    | succ k ih => rw [back, ih, back]
  intro T
  induction T using Nat.strongRecOn with
  | _ T ih =>
    intro v hv hT
    by_cases h0 : rho v = 0
    · have := (h.zero v hv h0).1
      have hfr : par s.last v = -1 := by unfold par; show (Lst s v).frm = -1; rw [this, he0]
      refine ⟨1, by omega, by omega, hfr, fun i hi => ?_, fun i hi => by omega, this, ?_, fun i hi => by omega⟩
      · obtain rfl : i = 0 := by omega
        exact hv
      · have e : wsum s.last v 1 = 0 + (Lst s v).wt := rfl
        rw [e, this, he1, (h.zero v hv h0).2]; omega
    · obtain ⟨h1, h2, h3, h4, h5⟩ := h.anc v hv (by omega)
      have hle := hs _ h1
      rw [h2] at hle
      have htau := h4 (by omega)
      have hin := (hE _ h1).1
      have ep : par s.last v = (Lst s v).frm := rfl
      obtain ⟨m, hm, hm0, g1, g2, g3, g4, g5, g6⟩ := ih (tau (Lst s v).frm) (by omega) (Lst s v).frm hin (Nat.le_refl _)
      refine ⟨m + 1, by omega, by omega, by rw [hb, ep]; exact g1, fun i hi => ?_, fun i hi => ?_, ?_, ?_, fun i hi => ?_⟩
      · cases i with
        | zero => exact hv
        | succ i => rw [hb, ep]; exact g2 i (by omega)
      · cases i with
        | zero => exact h1
        | succ i => rw [hb, ep]; exact g3 i (by omega)
      · obtain ⟨q, rfl⟩ : ∃ q, m = q + 1 := ⟨m - 1, by omega⟩
        simp only [Nat.add_sub_cancel] at g4 ⊢
        rw [hb, ep]; exact g4
      · rw [wsum_shift _ _ hb, ep]
        have e : (s.last.getD v.toNat default) = Lst s v := rfl
        rw [e]; omega
      · cases i with
        | zero => exact h2
        | succ i => rw [hb, ep]; exact g6 i (by omega)

/-- late changes have long ways back -/
theorem Inv.late {r0 : Int → Int} {e0 : Int → Edge} {s : Srch} {p t : Nat} {rho tau : Int → Nat} (hE : Edges n E) (h : Inv n E r0 e0 s p t E rho tau) {v : Int} (hv : In n v) (hr : rho v = p + 1) : ∀ i, i ≤ p + 1 → In n (back s.last i v) ∧ p + 1 ≤ rho (back s.last i v) + i
  | 0, _ => ⟨hv, by show p + 1 ≤ rho v + 0; omega⟩
  | i + 1, hi => by
    obtain ⟨h1, h2⟩ := Inv.late hE h hv hr i (by omega)
    obtain ⟨g1, g2, g3, g4, g5⟩ := h.anc _ h1 (by omega)
    have ep : back s.last (i + 1) v = (Lst s (back s.last i v)).frm := rfl
    rw [ep]
    exact ⟨(hE _ g1).1, by omega⟩

theorem back_add (last : List Edge) (v : Int) (i : Nat) : ∀ k, back last (i + k) v = back last k (back last i v)
  | 0 => rfl
  | k + 1 => congrArg (par last) (back_add last v i k)

/-- a change in a round after so many rounds: there is a circle -/
theorem Inv.circle {r0 : Int → Int} {e0 : Int → Edge} {s : Srch} {p t : Nat} {rho tau : Int → Nat} (hE : Edges n E) (h : Inv n E r0 e0 s p t E rho tau) (hp : n ≤ p) (hc : s.ch ≠ -1) :
    (∀ i, In n (back s.last i s.ch)) ∧ (∀ i, Lst s (back s.last i s.ch) ∈ E ∧ R s (back s.last (i + 1) s.ch) + (Lst s (back s.last i s.ch)).wt ≤ R s (back s.last i s.ch) ∧ (R s (back s.last i s.ch) = R s (back s.last (i + 1) s.ch) + (Lst s (back s.last i s.ch)).wt → tau (back s.last (i + 1) s.ch) < tau (back s.last i s.ch))) ∧
    ∃ m, 0 < m ∧ m ≤ n ∧ back s.last m (back s.last n s.ch) = back s.last n s.ch := by
  obtain ⟨hv, hr⟩ : In n s.ch ∧ rho s.ch = p + 1 := by
    rcases h.ch with ⟨h1, _⟩ | h1
    · exact absurd h1 hc
    · exact h1
  generalize s.ch = v at *
  have hl := h.late hE hv hr
  obtain ⟨i, j, hij, hj, e⟩ := pigeon n (fun i => (back s.last i v).toNat) (by
    intro i hi
    have := (hl i (by omega)).1
    unfold In at this
    omega)
  have e' : back s.last i v = back s.last j v := by
    have h1 := (hl i (by omega)).1
    have h2 := (hl j (by omega)).1
    unfold In at h1 h2
    omega
  have hper : ∀ k, i ≤ k → back s.last (k + (j - i)) v = back s.last k v := by
    intro k hk
    obtain ⟨q, rfl⟩ : ∃ q, k = i + q := ⟨k - i, by omega⟩
    rw [show i + q + (j - i) = j + q by omega, back_add, ← e', ← back_add]
  have hred : ∀ k, ∃ q, q ≤ n ∧ back s.last k v = back s.last q v := by
    intro k
    induction k using Nat.strongRecOn with
    | _ k ih =>
      by_cases hk : k ≤ n
      · exact ⟨k, hk, rfl⟩
      · obtain ⟨q, hq, hq2⟩ := ih (k - (j - i)) (by omega)
        refine ⟨q, hq, ?_⟩
        rw [← hq2, ← hper (k - (j - i)) (by omega)]
        congr 1; omega
  have hpos : ∀ k, In n (back s.last k v) ∧ 0 < rho (back s.last k v) := by
    intro k
    obtain ⟨q, hq, e2⟩ := hred k
    rw [e2]
    have := hl q (by omega)
    exact ⟨this.1, by omega⟩
  refine ⟨fun k => (hpos k).1, fun k => ?_, j - i, by omega, by omega, ?_⟩
  · obtain ⟨g1, g2, g3, g4, g5⟩ := h.anc _ (hpos k).1 (hpos k).2
    exact ⟨g1, g3, g4⟩
  · rw [← back_add]; exact hper n (by omega)

/-- the weights of a circle are less than 0 together -/
theorem Inv.below {s : Srch} {tau : Int → Nat} {v : Int} (h : ∀ i, R s (back s.last (i + 1) v) + (Lst s (back s.last i v)).wt ≤ R s (back s.last i v) ∧ (R s (back s.last i v) = R s (back s.last (i + 1) v) + (Lst s (back s.last i v)).wt → tau (back s.last (i + 1) v) < tau (back s.last i v))) :
    ∀ m, wsum s.last v m ≤ R s v - R s (back s.last m v) ∧ (wsum s.last v m = R s v - R s (back s.last m v) → tau (back s.last m v) + m ≤ tau v)
  | 0 => ⟨by simp [wsum, back], fun _ => by simp [back]⟩
  | m + 1 => by
    obtain ⟨h1, h2⟩ := Inv.below h m
    obtain ⟨g1, g2⟩ := h m
    have e : wsum s.last v (m + 1) = wsum s.last v m + (Lst s (back s.last m v)).wt := rfl
    rw [e]
    refine ⟨by omega, fun he => ?_⟩
    have := g2 (by omega)
    have := h2 (by omega)
    omega
theorem circle_below {s : Srch} {tau : Int → Nat} {v : Int} (h : ∀ i, R s (back s.last (i + 1) v) + (Lst s (back s.last i v)).wt ≤ R s (back s.last i v) ∧ (R s (back s.last i v) = R s (back s.last (i + 1) v) + (Lst s (back s.last i v)).wt → tau (back s.last (i + 1) v) < tau (back s.last i v)))
    {m : Nat} (hm : 0 < m) (hb : back s.last m v = v) : wsum s.last v m < 0 := by
  obtain ⟨h1, h2⟩ := Inv.below h m
  rw [hb] at h1 h2
  rcases Int.lt_or_eq_of_le h1 with h3 | h3
  · omega
  · have := h2 h3; omega

/-- what keeps the edges, and is nowhere above, stays nowhere above -/
theorem relax_above {r' : Int → Int} {s : Srch} {x : Edge} (hn : s.r.length = n) (hx : In n x.frm ∧ In n x.to ∧ x.frm ≠ x.to) (hr : r' x.to ≤ r' x.frm + x.wt) (h : ∀ i, In n i → r' i ≤ R s i) : ∀ i, In n i → r' i ≤ R (relax s x) i := by
  intro i hi
  by_cases hc : R s x.to ≤ R s x.frm + x.wt
  · rw [relax_no hc]; exact h i hi
  · rw [relax_yes hc, R_set hx.2.1 hn hi]
    split
    · rename_i e; subst e; have := h _ hx.1; omega
    · exact h i hi
theorem foldl_above {r' : Int → Int} : ∀ (E : List Edge) (s : Srch), s.r.length = n → Edges n E → (∀ x ∈ E, r' x.to ≤ r' x.frm + x.wt) → (∀ i, In n i → r' i ≤ R s i) → ∀ i, In n i → r' i ≤ R (E.foldl relax s) i
  | [], s, hn, hE, hr, h => h
  | x :: E, s, hn, hE, hr, h => by
    rw [List.foldl_cons]
    exact foldl_above E _ (by rw [relax_rlen, hn]) (fun y hy => hE y (List.mem_cons_of_mem _ hy)) (fun y hy => hr y (List.mem_cons_of_mem _ hy)) (relax_above hn (hE x (List.mem_cons_self ..)) (hr x (List.mem_cons_self ..)) h)
/-- what is relaxed falls -/
theorem relax_below {s : Srch} {x : Edge} (hn : s.r.length = n) (hx : In n x.to) : ∀ i, In n i → R (relax s x) i ≤ R s i := by
  intro i hi
  by_cases hc : R s x.to ≤ R s x.frm + x.wt
  · rw [relax_no hc]; exact Int.le_refl _
  · rw [relax_yes hc, R_set hx hn hi]
    split
    · rename_i e; subst e; omega
    · exact Int.le_refl _
theorem foldl_below : ∀ (E : List Edge) (s : Srch), s.r.length = n → Edges n E → ∀ i, In n i → R (E.foldl relax s) i ≤ R s i
  | [], s, hn, hE => fun i _ => Int.le_refl _
  | x :: E, s, hn, hE => fun i hi => by
    rw [List.foldl_cons]
    exact Int.le_trans (foldl_below E _ (by rw [relax_rlen, hn]) (fun y hy => hE y (List.mem_cons_of_mem _ hy)) i hi) (relax_below hn (hE x (List.mem_cons_self ..)).2.1 i hi)
/-- no circle is below 0, where something keeps its edges -/
theorem kept_sum {r' : Int → Int} {s : Srch} {v : Int} (hr : ∀ x ∈ E, r' x.to ≤ r' x.frm + x.wt) : ∀ m, (∀ i, i < m → Lst s (back s.last i v) ∈ E ∧ (Lst s (back s.last i v)).to = back s.last i v) → r' v ≤ r' (back s.last m v) + wsum s.last v m
  | 0, _ => by simp [back, wsum]
  | m + 1, h => by
    have h1 := kept_sum hr m (fun i hi => h i (by omega))
    obtain ⟨h2, h3⟩ := h m (by omega)
    have := hr _ h2
    rw [h3] at this
    have e : wsum s.last v (m + 1) = wsum s.last v m + (Lst s (back s.last m v)).wt := rfl
    have e2 : back s.last (m + 1) v = (Lst s (back s.last m v)).frm := rfl
    rw [e, e2]
    omega
end
end Go.Proofs.Ytacmnmcaeflflaa
