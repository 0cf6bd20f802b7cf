/-
  Slices of the call's own: their beginnings, their ends cleared.
-/
import Derived.Test.YtdcjgjopmicidaaDoorSxF
namespace Go.Sx
open Go.RowKit

theorem CellAt.rdH {α : Type} [Inhabited α] {C : Cx} {H : Items} {sz k j : Nat} {enc : α → List Value} {A : Option Addr} {l : List α} {u : Value} (h : ∀ w, SH C.w0 C.M H w → RdL w sz enc A l) (hk : k < l.length) (hv : (enc (l.getD k default))[j]? = some u) : CellAt C H ((ad A).add (k * sz + j)) u :=
  fun w m => (h w m).cell k _ (getD_of default hk) j u hv
theorem CellAt.rdH0 {α : Type} [Inhabited α] {C : Cx} {H : Items} {sz k : Nat} {enc : α → List Value} {A : Option Addr} {l : List α} {u : Value} (h : ∀ w, SH C.w0 C.M H w → RdL w sz enc A l) (hk : k < l.length) (hv : (enc (l.getD k default))[0]? = some u) : CellAt C H ((ad A).add (k * sz)) u :=
  CellAt.rdH (j := 0) h hk hv
theorem CellsAt.ownE {α : Type} [Inhabited α] {C : Cx} {H H1 I : Items} {sz n c k : Nat} {e : TypeId} {enc : α → List Value} {A : Option Addr} {l : List α} {vs : List Value} (h : Own sz e enc l (.slice A n c) I) [HChunk I H H1] (hs : ∀ x, (enc x).length = sz) (hk : k < l.length) (he : enc (l.getD k default) = vs) : CellsAt C H ((ad A).add (k * sz)) vs := by
  rw [← he]; exact CellsAt.own h hs hk
section
variable {α : Type} {sz : Nat} {e : TypeId} {enc : α → List Value} {l m : List α} {H H1 I : Items}
/-- the beginning of a slice of the call's own -/
theorem Own.pre {A : Option Addr} {c : Nat} (h : Own sz e enc (l ++ m) (.slice A (l ++ m).length c) I) (hs : ∀ x, (enc x).length = sz) (hne : 0 < (l ++ m).length) : Own sz e enc l (.slice A l.length c) I := by
  rcases h with ⟨_, h, _⟩ | ⟨g, c', rest, h, hI, hr, hle, hcm⟩
  · rw [h] at hne; simp at hne
  · injection h with h1 h2 h3
    subst h1 h3
    simp only [List.length_append] at hr hle
    refine .inr ⟨g, c, m.flatMap enc ++ rest, rfl, by rw [hI, List.flatMap_append, List.append_assoc], ?_, by omega, hcm⟩
    rw [List.length_append, hr, flat_len hs, ← Nat.add_mul]; congr 1; omega
theorem Own.clrFrom {A : Option Addr} {nn c k : Nat} {x : α} {u : Value} {w0 w : World} {M : Nat → Prop} {P : Program} (hM : SH w0 M H w) [hc : HChunk I H H1] (hO : Own 1 e enc l (.slice A nn c) I) (henc : ∀ x, (enc x).length = 1) (h1 : u.oneCell' = true) (hx : enc x = [u]) (hk : k < l.length) :
    ∃ g I' w', A = some ⟨g, 0, none⟩ ∧ nn = l.length ∧ l.length ≤ c ∧ (storeCells ⟨g, k, none⟩ (List.replicate (l.length - k) u)).run P w = .ok () w' ∧ Own 1 e enc (l.take k ++ List.replicate (l.length - k) x) (.slice A nn c) I' ∧ SH w0 M (I' ++ H1) w' := by
  have m0 := hM.perm hc.perm
  rcases hO with ⟨_, hl, _⟩ | ⟨g, c', rest, hv, hI, hr, hle, hcm⟩
  · subst hl; simp at hk
  · injection hv with hv1 hv2 hv3
    subst hv1 hv2 hv3
    subst hI
    have hfl := flat_len henc l
    obtain ⟨w', hrun, m'⟩ := run_storeCells (P := P) (List.replicate (l.length - k) u) k 0 (l.flatMap enc ++ rest) w m0 (fun v hv => by rw [(List.mem_replicate.1 hv).2]; exact h1) (by simp only [List.length_append, List.length_replicate]; omega)
    have hlen : (l.take k ++ List.replicate (l.length - k) x).length = l.length := by simp only [List.length_append, List.length_take, List.length_replicate]; omega
    refine ⟨g, [(g, blk ((l.take k ++ List.replicate (l.length - k) x).flatMap enc ++ rest) e)], w', rfl, rfl, hle, hrun, .inr ⟨g, c, rest, by rw [hlen], rfl, by rw [hlen]; exact hr, by rw [hlen]; exact hle, hcm⟩, ?_⟩
    have e2 : (l.flatMap enc ++ rest).take (k + 0) ++ List.replicate (l.length - k) u ++ (l.flatMap enc ++ rest).drop (k + 0 + (List.replicate (l.length - k) u).length) = (l.take k ++ List.replicate (l.length - k) x).flatMap enc ++ rest := by
      have e1 : l.flatMap enc = (l.take k).flatMap enc ++ (l.drop k).flatMap enc := by rw [← List.flatMap_append, List.take_append_drop]
      have e4 : ((l.take k).flatMap enc).length = k := by rw [flat_len henc, List.length_take]; omega
      have e3 : ∀ n, (List.replicate n x).flatMap enc = List.replicate n u := by
        intro n
        rw [List.flatMap_replicate, hx]
        induction n with
        | zero => rfl
        | succ n ih => rw [List.replicate_succ, List.replicate_succ, List.flatten_cons, ih]; rfl
      rw [List.flatMap_append, e3, List.length_replicate, Nat.add_zero, List.take_append_of_le_length (by omega), List.drop_append, List.drop_of_length_le (by omega), show k + (l.length - k) - (l.flatMap enc).length = 0 by omega]
      rw [e1, List.take_left' e4]; simp
    rw [e2] at m'
    exact m'
variable {C : Cx} {L : Slots} {D : List Deferred} {k : List Item} {ops : Array Oper} {i : Nat} {o : Oper} {n : Tr} {pend : List Nat}
/-- clear(s[q:]), s of the call's own -/
theorem GT_clearFrom {t q c nn : Nat} {x : Operand} {A : Option Addr} {u : Value} {xx : α} [hc : HChunk I H H1] (ho : opAt ops i = some o) (hop : o.op = .call { callee := .builtin .clear, args := #[x], argTypes := #[t] }) (hg : o.guard = none) (hd : o.dst = none)
    (hx : ev L x = some (.slice (slA c q 1 A) (nn - q) (c - q))) (hO : Own 1 e enc l (.slice A nn c) I) (ht : C.P.underlying t = some (.slice e)) (hz : zcOf C.P e = some [u]) (henc : ∀ x, (enc x).length = 1) (h1 : u.oneCell' = true) (hxx : enc xx = [u]) (hq : q < l.length)
    (hp : ∀ I', Own 1 e enc (l.take q ++ List.replicate (l.length - q) xx) (.slice A nn c) I' → GR C ops L D (I' ++ H1) pend) (h : ∀ I', Own 1 e enc (l.take q ++ List.replicate (l.length - q) xx) (.slice A nn c) I' → GT C ops k L D (I' ++ H1) n) : GT C ops k L D H (.ld i pend n) := by
  refine GT_ld ho hg (by simp [Oper.isDefer, hop]) fun a w st mm => ?_
  obtain ⟨g, I', w', rfl, rfl, hle, hrun, hO', m'⟩ := Own.clrFrom (P := C.P) (x := xx) mm hO henc h1 hxx hq
  obtain ⟨v, hv, hvc⟩ := Option.map_eq_some_iff.1 hz
  obtain ⟨inf, hi, hz0⟩ := Option.bind_eq_some_iff.1 hv
  have hcells : v.cells = #[u] := Array.toList_inj.1 hvc
  obtain ⟨q', hq'⟩ : ∃ q', l.length - q = q' + 1 := ⟨l.length - q - 1, by omega⟩
  have e0 : slA c q 1 (some ⟨g, 0, none⟩) = some ⟨g, q, none⟩ := by unfold slA; rw [if_neg (by omega)]; simp [add_lit]
  rw [e0, hq'] at hx
  rw [hq'] at hrun
  have e1 : (execOp a.eval o).run C.P w = .ok (.value (.tuple #[])) w' := by
    simp [execOp, hop, resolve, invoke, builtin, st.eval hx, Builtin.clear_, underlying, ht, zeroValue, typeInfo, hi, hz0, hcells, zeroCells_one, hrun]
  rw [e1]
  exact ⟨L, _, by rw [hd]; exact st, m', hp I' hO', h I' hO'⟩
end
end Go.Sx
