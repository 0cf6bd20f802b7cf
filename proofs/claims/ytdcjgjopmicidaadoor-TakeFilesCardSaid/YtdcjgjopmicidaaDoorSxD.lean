/-
  Slices that are cleared; slices that are compared with nil.
-/
import Derived.Test.YtdcjgjopmicidaaDoorSxC
namespace Go.Sx
open Go.RowKit

theorem zeroCells_one (u : Value) (n : Nat) : (Builtin.zeroCells #[u] n).toList = List.replicate n u := by
  unfold Builtin.zeroCells
  rw [Array.toList_map, Array.toList_range]
  apply List.ext_getElem (by simp)
  intro i h1 h2
  simp [Nat.mod_one]
section
variable {α : Type} {e : TypeId} {enc : α → List Value} {l : List α} {H H1 I : Items}
theorem flat_drop (henc : ∀ x, (enc x).length = 1) (k : Nat) (hk : k ≤ l.length) : (l.drop k).flatMap enc = (l.flatMap enc).drop k := by
  have e1 : l.flatMap enc = (l.take k).flatMap enc ++ (l.drop k).flatMap enc := by rw [← List.flatMap_append, List.take_append_drop]
  have e2 : ((l.take k).flatMap enc).length = k := by rw [flat_len henc, List.length_take]; omega
  rw [e1, List.drop_left' e2]
theorem Own.clr {A : Option Addr} {nn c k : Nat} {x : α} {u : Value} {w0 w : World} {M : Nat → Prop} {P : Program} (hM : SH w0 M H w) [hc : HChunk I H H1] (hO : Own 1 e enc l (.slice A nn c) I) (henc : ∀ x, (enc x).length = 1) (h1 : u.oneCell' = true) (hx : enc x = [u]) (hk : k ≤ l.length) (h0 : 0 < k) :
    ∃ g I' w', A = some ⟨g, 0, none⟩ ∧ (storeCells ⟨g, 0, none⟩ (List.replicate k u)).run P w = .ok () w' ∧ Own 1 e enc (List.replicate k x ++ l.drop k) (.slice A nn c) I' ∧ SH w0 M (I' ++ H1) w' := by
  have m0 := hM.perm hc.perm
  rcases hO with ⟨_, hl, _⟩ | ⟨g, c', rest, hv, hI, hr, hle, hcm⟩
  · subst hl; simp at hk; omega
  · injection hv with hv1 hv2 hv3
    subst hv1 hv2 hv3
    subst hI
    have hfl := flat_len henc l
    obtain ⟨w', hrun, m'⟩ := run_storeCells (P := P) (List.replicate k u) 0 0 (l.flatMap enc ++ rest) w m0 (fun v hv => by rw [(List.mem_replicate.1 hv).2]; exact h1) (by simp only [List.length_append, List.length_replicate]; omega)
    refine ⟨g, [(g, blk ((List.replicate k x ++ l.drop k).flatMap enc ++ rest) e)], w', rfl, hrun, .inr ⟨g, c, rest, ?_, rfl, ?_, ?_, hcm⟩, ?_⟩
    · simp only [List.length_append, List.length_replicate, List.length_drop]; congr 1; omega
    · rw [hr]; simp only [List.length_append, List.length_replicate, List.length_drop]; congr 2; omega
    · simp only [List.length_append, List.length_replicate, List.length_drop]; omega
    · have e2 : (l.flatMap enc ++ rest).take (0 + 0) ++ List.replicate k u ++ (l.flatMap enc ++ rest).drop (0 + 0 + (List.replicate k u).length) = (List.replicate k x ++ l.drop k).flatMap enc ++ rest := by
        rw [List.flatMap_append, flat_drop henc k hk, List.length_replicate]
        have e3 : (List.replicate k x).flatMap enc = List.replicate k u := by
          rw [List.flatMap_replicate, hx]; clear hrun m' h0 hk; induction k with
          | zero => rfl
          | succ k ih => rw [List.replicate_succ, List.replicate_succ, List.flatten_cons, ih]; rfl
        rw [e3]
        simp only [Nat.add_zero, Nat.zero_add, List.take_zero, List.nil_append]
        rw [List.drop_append_of_le_length (by omega), List.append_assoc]
      rw [e2] at m'
      exact m'
variable {C : Cx} {L : Slots} {D : List Deferred} {k : List Item} {ops : Array Oper} {i : Nat} {o : Oper} {n : Tr} {pend : List Nat}
/-- clear(s[:q]), s of the call's own -/
theorem GT_clear {t q c c' nn : Nat} {x : Operand} {A : Option Addr} {u : Value} {xx : α} [hc : HChunk I H H1] (ho : opAt ops i = some o) (hop : o.op = .call { callee := .builtin .clear, args := #[x], argTypes := #[t] }) (hg : o.guard = none) (hd : o.dst = none)
    (hx : ev L x = some (.slice A q c')) (hO : Own 1 e enc l (.slice A nn c) I) (ht : C.P.underlying t = some (.slice e)) (hz : zcOf C.P e = some [u]) (henc : ∀ x, (enc x).length = 1) (h1 : u.oneCell' = true) (hxx : enc xx = [u]) (hq : q ≤ l.length)
    (hp : ∀ I', Own 1 e enc (List.replicate q xx ++ l.drop q) (.slice A nn c) I' → GR C ops L D (I' ++ H1) pend) (h : ∀ I', Own 1 e enc (List.replicate q xx ++ l.drop q) (.slice A nn c) I' → GT C ops k L D (I' ++ H1) n) : GT C ops k L D H (.ld i pend n) := by
  refine GT_ld ho hg (by simp [Oper.isDefer, hop]) fun a w st mm => ?_
  rcases Nat.eq_zero_or_pos q with rfl | h0
  · have e1 : (execOp a.eval o).run C.P w = .ok (.value (.tuple #[])) w := by
      cases A <;> simp [execOp, hop, resolve, invoke, builtin, st.eval hx, Builtin.clear_, underlying, ht]
    rw [e1]
    have e2 : List.replicate 0 xx ++ l.drop 0 = l := rfl
    rw [e2] at hp h
    exact ⟨L, _, by rw [hd]; exact st, mm.perm hc.perm, hp I hO, h I hO⟩
  · obtain ⟨g, I', w', rfl, hrun, hO', m'⟩ := Own.clr (P := C.P) (x := xx) mm hO henc h1 hxx hq h0
    obtain ⟨v, hv, hvc⟩ := Option.map_eq_some_iff.1 hz
    obtain ⟨inf, hi, hz0⟩ := Option.bind_eq_some_iff.1 hv
    have hcells : v.cells = #[u] := Array.toList_inj.1 hvc
    obtain ⟨q', rfl⟩ : ∃ q', q = q' + 1 := ⟨q - 1, by omega⟩
    have e1 : (execOp a.eval o).run C.P w = .ok (.value (.tuple #[])) w' := by
      simp [execOp, hop, resolve, invoke, builtin, st.eval hx, Builtin.clear_, underlying, ht, zeroValue, typeInfo, hi, hz0, hcells, zeroCells_one, hrun]
    rw [e1]
    exact ⟨L, _, by rw [hd]; exact st, m', hp I' hO', h I' hO'⟩
/-- a slice that is not nil is not equal to nil -/
theorem V_eqlNilF {t t' e q c : Nat} {x y : Operand} {g : Addr} (ho : o.op = .binOp .eql t x y t') (hx : ev L x = some (.slice (some g) q c)) (hy : ev L y = some (.slice none 0 0)) (ht : C.P.underlying t = some (.slice e)) : OpV C L H o (.bool false) := fun D act w s m => by
  have h : ∀ d, (Op.equalIn (d + 1) t (.slice (some g) q c) (.slice none 0 0)).run C.P w = .ok false w := fun d => by
    simp [Op.equalIn, underlying, ht]
  have h' : (Op.equalIn Op.maxDepth t (.slice (some g) q c) (.slice none 0 0)).run C.P w = .ok false w := h _
  simp [execOp, ho, s.eval hx, s.eval hy, eqGuard, binOp, Op.equal, h']
end
end Go.Sx
