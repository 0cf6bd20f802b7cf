/-
  Cells of a block, by their place in it.
-/
import Derived.Test.YtdcjgjopmicidaaDoorSxB
namespace Go.Sx
open Go.RowKit

section
variable {α : Type} {sz : Nat} {e : TypeId} {enc : α → List Value} {l : List α} {H H1 I : Items}
theorem CellAt.ownQ [Inhabited α] {C : Cx} {g a n c k j : Nat} {u : Value} (h : Own sz e enc l (.slice (some ⟨g, 0, none⟩) n c) I) [HChunk I H H1] (hs : ∀ x, (enc x).length = sz) (hk : k < l.length) (ha : a = k * sz + j) (hv : (enc (l.getD k default))[j]? = some u) : CellAt C H ⟨g, a, none⟩ u := by
  subst ha
  have := CellAt.own (C := C) (H := H) (H1 := H1) h hs hk hv
  simpa [ad, add_lit] using this
theorem RdL.atQ [Inhabited α] {C : Cx} {g a k j : Nat} {u : Value} (h : RdL C.w0 sz enc (some ⟨g, 0, none⟩) l) (hM : ∀ b, ¬ C.M b) (hk : k < l.length) (ha : a = k * sz + j) (hv : (enc (l.getD k default))[j]? = some u) : CellAt C H ⟨g, a, none⟩ u := by
  subst ha
  have := h.at1 (H := H) hM hk hv
  simpa [ad, add_lit] using this
theorem Own.full {g n : Nat} (h : Own sz e enc l (.slice (some ⟨g, 0, none⟩) n n) I) (hn : n = l.length) : I = [(g, blk (l.flatMap enc) e)] := by
  rcases h with ⟨h, _⟩ | ⟨g', c', rest, h, hI, hr, _⟩
  · cases h
  · injection h with h1 h2 h3
    injection h1 with h1
    injection h1 with h1
    subst h1 h3 hn
    rw [Nat.sub_self, Nat.zero_mul] at hr
    rw [hI, List.eq_nil_of_length_eq_zero hr, List.append_nil]
variable {C : Cx} {L : Slots} {D : List Deferred} {k : List Item} {ops : Array Oper} {i : Nat} {o : Oper} {n : Tr} {pend : List Nat}
theorem GT_storeOwnQ {t q c nn g a : Nat} {x y : Operand} {u : Value} {xx : α} [hc : HChunk I H H1] (ho : opAt ops i = some o) (hop : o.op = .store t x y) (hg : o.guard = none) (hd : o.dst = none)
    (hx : ev L x = some (.pointer (some ⟨g, a, none⟩))) (hy : ev L y = some u) (hu : u.cells.toList = enc xx) (hs : szOf C.P t = some sz) (hO : Own sz e enc l (.slice (some ⟨g, 0, none⟩) nn c) I) (henc : ∀ x, (enc x).length = sz) (h1 : ∀ x, ∀ u ∈ enc x, u.oneCell' = true) (ha : a = q * sz) (hq : q < l.length) (h0 : 0 < sz)
    (hp : ∀ I', Own sz e enc (l.set q xx) (.slice (some ⟨g, 0, none⟩) nn c) I' → GR C ops L D (I' ++ H1) pend) (h : ∀ I', Own sz e enc (l.set q xx) (.slice (some ⟨g, 0, none⟩) nn c) I' → GT C ops k L D (I' ++ H1) n) : GT C ops k L D H (.ld i pend n) :=
  GT_storeOwn ho hop hg hd (by rw [hx, ha]; simp [ad, add_lit]) hy hu hs hO henc h1 hq h0 hp h
end
end Go.Sx
