/- Texts of this proof, one behind the other: SxZ. -/
import Derived.Test.YtncleikbggjmjaaGreatDoorMt13
import Derived.Maps.RangeRun
/-
  Ranges over maps; keys that are deleted.
-/
namespace Go.Sx
open Go.RowKit
def ItIs {κ ν : Type} (ke : κ → Value) (ve : ν → Value) (f : κ → Option ν) (r : Nat) (ob it : Obj) (S : κ → Prop) (left : Nat) : Prop :=
  ∃ (es : List MapEntry) (clock : Nat) (seen : Array Nat), ob = .map es.toArray clock ∧ EntIs ke ve f es clock ∧ it = .mapIter (some r) clock seen clock ∧ left = (es.filter fun e => !seen.contains e.born).length ∧
    ∀ k, S k ↔ ∃ e, e ∈ es ∧ e.key = ke k ∧ e.born ∈ seen.toList
def ItAt {κ ν : Type} (ke : κ → Value) (ve : ν → Value) (f : κ → Option ν) (r : Nat) (ob it : Obj) (k : κ) (v : ν) : Prop :=
  ∃ (es : List MapEntry) (clock : Nat) (seen : Array Nat) (e : MapEntry), ob = .map es.toArray clock ∧ EntIs ke ve f es clock ∧ it = .mapIter (some r) clock (seen.push e.born) clock ∧
    e ∈ es ∧ e.key = ke k ∧ e.val = ve v
section
variable {κ ν : Type} {ke : κ → Value} {ve : ν → Value} {f : κ → Option ν} {es : List MapEntry} {clock : Nat}
theorem filter_lt {α : Type} {p p' : α → Bool} (hp : ∀ x, p' x = true → p x = true) {e : α} (h1 : p e = true) (h2 : p' e = false) : ∀ {l : List α}, e ∈ l → (l.filter p').length < (l.filter p).length := by
  have hle : ∀ l : List α, (l.filter p').length ≤ (l.filter p).length := by
    intro l
    induction l with
    | nil => exact Nat.le_refl _
    | cons y l ih =>
      rw [List.filter_cons, List.filter_cons]
      by_cases a : p' y = true
      · rw [if_pos a, if_pos (hp _ a), List.length_cons, List.length_cons]; omega
      · rw [if_neg a]; split <;> (try rw [List.length_cons]) <;> omega
  intro l
  induction l with
  | nil => intro h; cases h
  | cons y l ih =>
    intro h
    rw [List.filter_cons, List.filter_cons]
    rcases List.mem_cons.1 h with rfl | h
    · rw [if_pos h1, if_neg (by rw [h2]; decide), List.length_cons]; have := hle l; omega
    · have := ih h
      by_cases a : p' y = true
      · rw [if_pos a, if_pos (hp _ a), List.length_cons, List.length_cons]; omega
      · rw [if_neg a]; split <;> (try rw [List.length_cons]) <;> omega
theorem EntIs.nodup (h : EntIs ke ve f es clock) : (es.toArray.toList.map (·.born)).Nodup := by
  show (es.map (·.born)).Nodup
  unfold List.Nodup
  rw [List.pairwise_iff_getElem]
  intro i j hi hj hij q
  simp only [List.length_map] at hi hj
  simp only [List.getElem_map] at q
  have := h.borns i j _ _ (List.getElem?_eq_getElem hi) (List.getElem?_eq_getElem hj) q
  omega
theorem EntIs.uniq (h : EntIs ke ve f es clock) {e e' : MapEntry} (he : e ∈ es) (he' : e' ∈ es) (hk : e.key = e'.key) : e = e' := by
  obtain ⟨i, hi⟩ := List.getElem?_of_mem he
  obtain ⟨j, hj⟩ := List.getElem?_of_mem he'
  have := h.keys i j e e' hi hj hk
  subst this
  rw [hi] at hj; exact Option.some.inj hj
theorem EntIs.uniqB (h : EntIs ke ve f es clock) {e e' : MapEntry} (he : e ∈ es) (he' : e' ∈ es) (hk : e.born = e'.born) : e = e' := by
  obtain ⟨i, hi⟩ := List.getElem?_of_mem he
  obtain ⟨j, hj⟩ := List.getElem?_of_mem he'
  have := h.borns i j e e' hi hj hk
  subst this
  rw [hi] at hj; exact Option.some.inj hj
end
section
variable {C : Cx} {k : List Item} {L : Slots} {D : List Deferred} {H H' : Items} {ops : Array Oper} {i d : Nat} {o : Oper} {n : Tr} {pend : List Nat}
variable {κ ν : Type} {ke : κ → Value} {ve : ν → Value} {f : κ → Option ν} {ob it : Obj} {kt : TypeId}
theorem GT_rangeM {t e r : Nat} {x : Operand} (hm : MapIs ke ve f ob) [hf : HFind r H ob] (ho : opAt ops i = some o) (hop : o.op = .range t x) (hg : o.guard = none) (hd : o.dst = some d) (hN : Nat.blt d C.N = true)
    (hx : ev L x = some (.map (some r))) (htm : C.P.underlying t = some (.map kt e))
    (hp : ∀ b it, GR C ops ((d, ptr b 0) :: L) D ((b, it) :: H) pend) (h : ∀ b it left, ItIs ke ve f r ob it (fun _ => False) left → GT C ops k ((d, ptr b 0) :: L) D ((b, it) :: H) n) : GT C ops k L D H (.ld i pend n) := by
  refine GT_ld ho hg (by simp [Oper.isDefer, hop]) fun a w s m => ?_
  have hr := (m.item _ hf.mem).2
  obtain ⟨es, clock, rfl, hE⟩ := hm
  have h1 := run_range_map (P := C.P) w t kt e r es.toArray clock htm hr
  have : (execOp a.eval o).run C.P w = .ok (.value (ptr w.heap.size 0)) { w with heap := w.heap.push (.mapIter (some r) clock #[] clock) } := by
    simp [execOp, hop, s.eval hx, h1]
  rw [this]
  refine ⟨_, _, by rw [hd]; exact s.put hN _, m.alloc _, hp _ _, h _ _ _ ⟨es, clock, #[], rfl, hE, rfl, rfl, fun k => ⟨fun q => q.elim, ?_⟩⟩⟩
  rintro ⟨_, _, _, q⟩; simp at q
theorem GT_nextM [Inhabited κ] [Inhabited ν] {r b left : Nat} {x : Operand} {S : κ → Prop} (hi : ItIs ke ve f r ob it S left) [hf : HFind r H ob] [ht : HTake b H it H'] (ho : opAt ops i = some o) (hop : o.op = .next x false) (hg : o.guard = none) (hd : o.dst = some d) (hN : Nat.blt d C.N = true)
    (hx : ev L x = some (ptr b 0)) (hinj : ∀ k k', ke k = ke k' → k = k')
    (hp : ∀ A it', GR C ops ((d, .tuple A) :: L) D ((b, it') :: H') pend)
    (h : ∀ (A : Array Value) it' (c : Bool) (q : κ) (v : ν) (left' : Nat), A[0]? = some (.bool c) → (c = true → f q = some v ∧ ¬ S q ∧ ItAt ke ve f r ob it' q v ∧ left' < left ∧ ItIs ke ve f r ob it' (fun z => S z ∨ z = q) left') → (c = false → ∀ z, f z ≠ none → S z) → GT C ops k ((d, .tuple A) :: L) D ((b, it') :: H') n) : GT C ops k L D H (.ld i pend n) := by
  refine GT_ld ho hg (by simp [Oper.isDefer, hop]) fun a w s m => ?_
  have hr := (m.item _ hf.mem).2
  have m' := m.perm ht.perm
  have hb := (m'.item _ (List.mem_cons_self ..)).2
  obtain ⟨es, clock, seen, rfl, hE, rfl, hleft, hS⟩ := hi
  have hlt : ∀ x ∈ es.toArray.toList, x.born < clock := fun x hx => by
    obtain ⟨j, hj⟩ := List.getElem?_of_mem (show x ∈ es by simpa using hx)
    exact hE.clock j x hj
  rcases run_next_at (P := C.P) w o.type b r clock clock seen es.toArray clock hb hr hlt (Nat.le_refl _) with ⟨h0, h1⟩ | ⟨e, he, w1, hw1, h1⟩
  · have : (execOp a.eval o).run C.P w = .ok (.value (.tuple #[.bool false])) w := by
      simp [execOp, hop, s.eval hx, ptr, h1]
    rw [this]
    refine ⟨_, _, by rw [hd]; exact s.put hN _, m', hp _ _, h _ _ false default default 0 rfl (fun q => by cases q) fun _ z hz => ?_⟩
    rw [hS]
    obtain ⟨v, hv⟩ := Option.ne_none_iff_exists'.1 hz
    obtain ⟨j, e, h2, h3, _⟩ := hE.there z v hv
    refine ⟨e, List.mem_of_getElem? h2, h3, ?_⟩
    have h4 : leftOf es.toArray seen = #[] := Array.eq_empty_of_size_eq_zero h0
    unfold leftOf at h4
    rw [Array.filter_eq_empty_iff] at h4
    have := h4 e (by simpa using List.mem_of_getElem? h2)
    simpa using this
  · unfold leftOf at he
    simp at he
    obtain ⟨he, hns⟩ := he
    have hset : Go.ChangeMaps.setBlock w1 b (.mapIter (some r) clock (seen.push e.born) clock) = { w1 with heap := w1.heap.setIfInBounds b (.mapIter (some r) clock (seen.push e.born) clock) } := rfl
    have : (execOp a.eval o).run C.P w = .ok (.value (.tuple #[.bool true, e.key, e.val])) { w1 with heap := w1.heap.setIfInBounds b (.mapIter (some r) clock (seen.push e.born) clock) } := by
      simp [execOp, hop, s.eval hx, ptr, h1, hset]
    rw [this]
    have m1 : SH C.w0 C.M ((b, .mapIter (some r) clock seen clock) :: H') w1 := by
      rcases hw1 with rfl | rfl
      · exact m'
      · exact m'.drew
    obtain ⟨j, hj⟩ := List.getElem?_of_mem he
    obtain ⟨q, v, h2, h3, h4⟩ := hE.holds j e hj
    refine ⟨_, _, by rw [hd]; exact s.put hN _, m1.set _, hp _ _, h _ _ true q v _ rfl (fun _ => ⟨h4, ?_, ⟨es, clock, seen, e, rfl, hE, rfl, he, h2, h3⟩, hleft ▸ filter_lt (fun x hx => ?_) ?_ ?_ he, es, clock, seen.push e.born, rfl, hE, rfl, rfl, fun z => ?_⟩) (fun c => by cases c)⟩
    · rw [hS]
      rintro ⟨e', h5, h6, h7⟩
      obtain rfl := hE.uniq h5 he (h6.trans h2.symm)
      exact hns (by simpa using h7)
    · show S z ∨ z = q ↔ _
      rw [hS]
      constructor
      · rintro (⟨e', h5, h6, h7⟩ | rfl)
        · exact ⟨e', h5, h6, by simp at h7 ⊢; exact .inl h7⟩
        · exact ⟨e, he, h2, by simp⟩
      · rintro ⟨e', h5, h6, h7⟩
        simp at h7
        rcases h7 with h7 | h7
        · exact .inl ⟨e', h5, h6, by simpa using h7⟩
        · obtain rfl := hE.uniqB h5 he h7
          exact .inr (hinj _ _ (h6.symm.trans h2))
    · simp at hx ⊢; exact hx.1
    · simpa using hns
    · simp
theorem V_entryM {r b : Nat} {x : Operand} {q : κ} {v : ν} (hi : ItAt ke ve f r ob it q v) [hf : HFind r H ob] [hb : HFind b H it] (ho : o.op = .entry x) (hx : ev L x = some (ptr b 0)) : OpV C L H o (.tuple #[ke q, ve v]) := fun D a w s m => by
  have hr := (m.item _ hf.mem).2
  have hbb := (m.item _ hb.mem).2
  obtain ⟨es, clock, seen, e, rfl, hE, rfl, he, h2, h3⟩ := hi
  have h1 := run_entry_at (P := C.P) w b r clock seen es.toArray clock e hbb hr (by simpa using he) hE.nodup
  simp [execOp, ho, s.eval hx, ptr, h1, h2, h3]
theorem GT_deleteM [DecidableEq κ] {t ty e r : Nat} {x y : Operand} {q : κ} {yv : Value} (hm : MapIs ke ve f ob) [ht : HTake r H ob H'] (hk : KeyOk C.P kt ke) (ho : opAt ops i = some o) (hop : o.op = .call { callee := .builtin .delete, args := #[x, y], argTypes := #[t, ty] }) (hg : o.guard = none) (hd : o.dst = none)
    (hx : ev L x = some (.map (some r))) (hy : ev L y = some yv) (hyq : yv = ke q) (htm : C.P.underlying t = some (.map kt e))
    (hp : ∀ ob', GR C ops L D ((r, ob') :: H') pend) (h : ∀ ob', MapIs ke ve (upd f q none) ob' → GT C ops k L D ((r, ob') :: H') n) : GT C ops k L D H (.ld i pend n) := by
  subst hyq
  refine GT_ld ho hg (by simp [Oper.isDefer, hop]) fun a w s m => ?_
  have m' := m.perm ht.perm
  have hr : w.heap[r]? = some ob := (m'.item _ (List.mem_cons_self ..)).2
  obtain ⟨ob', h1, h2⟩ := run_deleteM (k := q) hm hr hk (ty := o.type) (tk := ty) htm
  have : (execOp a.eval o).run C.P w = .ok (.value (.tuple #[])) { w with heap := w.heap.setIfInBounds r ob' } := by
    simp [execOp, hop, resolve, s.eval hx, s.eval hy, invoke, builtin, h2]
  rw [this]
  exact ⟨L, _, by rw [hd]; exact s, m'.set _, hp _, h _ h1⟩
end
end Go.Sx
