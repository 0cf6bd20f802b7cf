/-
  Slices that come in: what their elements read.
-/
import Derived.Test.YtdcjgjopmicidaaDoorSx5
namespace Go.Sx
open Go.RowKit

/-- The slice at A, in w, has the elements l, each of sz cells, enc's. -/
structure RdL {α : Type} (w : World) (sz : Nat) (enc : α → List Value) (A : Option Addr) (l : List α) : Prop where
  there : l ≠ [] → A.isSome = true
  cell : ∀ k x, l[k]? = some x → ∀ j v, (enc x)[j]? = some v → w.cell? ((ad A).add (k * sz + j)) = some v

theorem RdL.sh {α : Type} {w0 w : World} {sz : Nat} {enc : α → List Value} {A : Option Addr} {l : List α} {H : Items} (h : RdL w0 sz enc A l) (m : SH w0 none' H w) : RdL w sz enc A l :=
  ⟨h.there, fun k x hk j v hv => m.cellOld (h.cell k x hk j v hv) (fun e => e)⟩
theorem RdL.isSome {α : Type} {w : World} {sz : Nat} {enc : α → List Value} {A : Option Addr} {l : List α} (h : RdL w sz enc A l) {k : Nat} (hk : k < l.length) : A.isSome = true :=
  h.there (by intro e; subst e; simp at hk)
theorem getD_of {α : Type} {l : List α} {k : Nat} (d : α) (hk : k < l.length) : l[k]? = some (l.getD k d) := by
  simp [List.getD, hk]
theorem RdL.take {α : Type} {w : World} {sz : Nat} {enc : α → List Value} {A : Option Addr} {l : List α} (h : RdL w sz enc A l) (n : Nat) : RdL w sz enc A (l.take n) :=
  ⟨fun e => h.there (fun e' => e (by simp [e'])), fun k x hk j v hv => h.cell k x (by
    rw [List.getElem?_take] at hk
    split at hk
    · exact hk
    · cases hk) j v hv⟩

section
variable {C : Cx} {H : Items} {α : Type} [Inhabited α] {sz : Nat} {enc : α → List Value} {A : Option Addr} {l : List α}
/-- One cell of an element, field j. -/
theorem RdL.at1 (h : RdL C.w0 sz enc A l) (hM : ∀ b, ¬ C.M b) {k : Nat} (hk : k < l.length) {j : Nat} {v : Value} (hv : (enc (l.getD k default))[j]? = some v) : CellAt C H ((ad A).add (k * sz + j)) v :=
  CellAt.old (h.cell k _ (getD_of default hk) j v hv) (hM _)
theorem RdL.at0 (h : RdL C.w0 sz enc A l) (hM : ∀ b, ¬ C.M b) {k : Nat} (hk : k < l.length) {v : Value} (hv : (enc (l.getD k default))[0]? = some v) : CellAt C H ((ad A).add (k * sz)) v :=
  h.at1 (H := H) hM hk (j := 0) hv
/-- A whole element. -/
theorem RdL.ats (h : RdL C.w0 sz enc A l) (hM : ∀ b, ¬ C.M b) {k : Nat} (hk : k < l.length) : CellsAt C H ((ad A).add (k * sz)) (enc (l.getD k default)) := by
  intro i v hi
  rw [add_add']
  exact h.at1 hM hk hi
end
theorem noM {P : Program} {hm : P.follows .mixedOrders = true} {f N : Nat} {w0 : World} {R : Value → World → Prop} : ∀ b, ¬ (cx P hm f N w0 none' R).M b := fun _ e => e

/-- The same of a slice in a block of the call's own. -/
theorem flat_get {α : Type} {sz : Nat} {enc : α → List Value} (hs : ∀ x, (enc x).length = sz) : ∀ (l : List α) (k : Nat) (x : α), l[k]? = some x → ∀ j v, (enc x)[j]? = some v → (l.flatMap enc)[k * sz + j]? = some v
  | [], k, x, h => by simp at h
  | y :: l, 0, x, h => by
    intro j v hj
    simp only [List.getElem?_cons_zero, Option.some.injEq] at h
    subst h
    have hlt : j < (enc y).length := (List.getElem?_eq_some_iff.1 hj).1
    simp only [Nat.zero_mul, Nat.zero_add, List.flatMap_cons]
    rw [List.getElem?_append_left hlt]; exact hj
  | y :: l, k + 1, x, h => by
    intro j v hj
    simp only [List.getElem?_cons_succ] at h
    have ih := flat_get hs l k x h j v hj
    simp only [List.flatMap_cons]
    rw [List.getElem?_append_right (by rw [hs, Nat.add_mul]; omega), hs]
    rw [show (k + 1) * sz + j - sz = k * sz + j by rw [Nat.add_mul]; omega]
    exact ih
theorem RdL.own {α : Type} {w0 w : World} {M : Nat → Prop} {H : Items} {sz b : Nat} {t : TypeId} {fr : Nat × Nat} {enc : α → List Value} {l : List α} {rest : List Value} (m : SH w0 M H w) [h : HFind b H (.cells (l.flatMap enc ++ rest).toArray t fr)] (hs : ∀ x, (enc x).length = sz) : RdL w sz enc (some ⟨b, 0, none⟩) l := by
  refine ⟨fun _ => rfl, fun k x hk j v hv => ?_⟩
  have hi := (m.item _ h.mem).2
  have := flat_get hs l k x hk j v hv
  have hlt := (List.getElem?_eq_some_iff.1 this).1
  simp only [ad, Option.getD_some, add_lit, World.cell?, hi, Nat.zero_add]
  simp only [Option.isSome_none, Bool.false_eq_true, if_false, List.getElem?_toArray]
  rw [List.getElem?_append_left hlt]; exact this
theorem RdL.own' {α : Type} {w0 w : World} {M : Nat → Prop} {H : Items} {sz b : Nat} {t : TypeId} {fr : Nat × Nat} {enc : α → List Value} {l : List α} (m : SH w0 M H w) [h : HFind b H (.cells (l.flatMap enc).toArray t fr)] (hs : ∀ x, (enc x).length = sz) : RdL w sz enc (some ⟨b, 0, none⟩) l := by
  have h' : HFind b H (.cells (l.flatMap enc ++ []).toArray t fr) := by simpa using h
  exact RdL.own m hs
theorem RdL.nil {α : Type} {w : World} {sz : Nat} {enc : α → List Value} {A : Option Addr} : RdL w sz enc A ([] : List α) := ⟨fun e => absurd rfl e, fun k x hk => by simp at hk⟩

/-- one element in a block of the call's own -/
theorem CellAt.row {C : Cx} {H : Items} {α : Type} [Inhabited α] {sz b k j : Nat} {t : TypeId} {fr : Nat × Nat} {enc : α → List Value} {l : List α} {v : Value} [h : HFind b H (.cells (l.flatMap enc).toArray t fr)] (hs : ∀ x, (enc x).length = sz) (hk : k < l.length) (hv : (enc (l.getD k default))[j]? = some v) {q : Nat} (hq : q = k * sz + j) : CellAt C H ⟨b, q, none⟩ v := by
  subst hq
  exact CellAt.item (flat_get hs l k _ (getD_of default hk) j v hv)
theorem CellsAt.row {C : Cx} {H : Items} {α : Type} [Inhabited α] {sz b k : Nat} {t : TypeId} {fr : Nat × Nat} {enc : α → List Value} {l : List α} [h : HFind b H (.cells (l.flatMap enc).toArray t fr)] (hs : ∀ x, (enc x).length = sz) (hk : k < l.length) {q : Nat} (hq : q = k * sz) : CellsAt C H ⟨b, q, none⟩ (enc (l.getD k default)) := by
  subst hq
  intro i v hi
  rw [add_lit]
  exact CellAt.row hs hk hi rfl

theorem flat_set {α : Type} {sz : Nat} {enc : α → List Value} (hs : ∀ x, (enc x).length = sz) (hz : 0 < sz) : ∀ (l : List α) (k : Nat) (x : α), k < l.length → setsAt (l.flatMap enc) (k * sz) (enc x) = (l.set k x).flatMap enc
  | [], k, x, h => by simp at h
  | y :: l, 0, x, h => by
    rw [setsAt_eq _ _ _ (by simp [hs])]
    simp [hs]
  | y :: l, k + 1, x, h => by
    have hk : k < l.length := by simpa using h
    have hle : (k + 1) * sz + (enc x).length ≤ ((y :: l).flatMap enc).length := by
      have : (l.flatMap enc).length = l.length * sz := by
        clear h hk
        induction l with
        | nil => simp
        | cons z l ih => simp [hs, ih, Nat.add_mul, Nat.add_comm]
      simp only [List.flatMap_cons, List.length_append, hs, this]
      have : (k + 1) * sz ≤ l.length * sz := Nat.mul_le_mul_right _ hk
      omega
    have ih := flat_set hs hz l k x hk
    have hle2 : k * sz + (enc x).length ≤ (l.flatMap enc).length := by
      simp only [List.flatMap_cons, List.length_append, hs, Nat.add_mul] at hle ⊢
      omega
    rw [setsAt_eq _ _ _ hle2] at ih
    rw [setsAt_eq _ _ _ hle]
    simp only [List.flatMap_cons, List.set_cons_succ, ← ih]
    rw [List.take_append, List.drop_append, hs]
    rw [List.take_of_length_le (by rw [hs, Nat.add_mul]; omega), List.drop_eq_nil_of_le (by rw [hs, Nat.add_mul]; omega)]
    rw [show (k + 1) * sz - sz = k * sz by rw [Nat.add_mul]; omega, show (k + 1) * sz + (enc x).length - sz = k * sz + (enc x).length by rw [Nat.add_mul]; omega, hs]
    simp
end Go.Sx
