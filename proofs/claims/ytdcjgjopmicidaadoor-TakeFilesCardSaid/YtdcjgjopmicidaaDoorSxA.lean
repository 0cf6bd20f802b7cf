/-
  A field of an element of a slice of the call's own is stored.
-/
import Derived.Test.YtdcjgjopmicidaaDoorSx8
namespace Go.Sx
open Go.RowKit

theorem setsAt_get : ∀ (vs l : List Value) (q k : Nat), (setsAt l q vs)[k]? = if q ≤ k ∧ k < q + vs.length ∧ k < l.length then vs[k - q]? else l[k]?
  | [], l, q, k => by rw [if_neg (by simp; omega)]; rfl
  | v :: vs, l, q, k => by
    rw [setsAt, setsAt_get vs (l.set q v) (q + 1) k]
    simp only [List.length_cons, List.length_set]
    by_cases h1 : q + 1 ≤ k ∧ k < q + 1 + vs.length ∧ k < l.length
    · rw [if_pos h1, if_pos (by omega), show k - q = (k - (q + 1)) + 1 by omega, List.getElem?_cons_succ]
    · rw [if_neg h1]
      by_cases h2 : q ≤ k ∧ k < q + (vs.length + 1) ∧ k < l.length
      · rw [if_pos h2]
        obtain rfl : k = q := by omega
        simp [h2.2.2]
      · rw [if_neg h2, List.getElem?_set]
        split
        · rename_i e
          subst e
          rw [List.getElem?_eq_none (by omega), if_neg (by omega)]
        · rfl

variable {α : Type} {sz : Nat} {e : TypeId} {enc : α → List Value} {H H1 I : Items}
theorem flat_setF [Inhabited α] {l : List α} {q j : Nat} {u : Value} {x : α} (henc : ∀ x, (enc x).length = sz) (hq : q < l.length) (hj : j < sz) (hx : enc x = (enc (l.getD q default)).set j u) : (l.flatMap enc).set (q * sz + j) u = (l.set q x).flatMap enc := by
  rw [← flat_set henc (by omega) l q x hq]
  apply List.ext_getElem?
  intro k
  have hlen := flat_len henc l
  have hle : (q + 1) * sz ≤ l.length * sz := Nat.mul_le_mul_right _ hq
  rw [Nat.add_mul] at hle
  rw [setsAt_get, List.getElem?_set, henc]
  by_cases h1 : q * sz ≤ k ∧ k < q * sz + sz ∧ k < (l.flatMap enc).length
  · rw [if_pos h1, hx, List.getElem?_set, henc]
    by_cases h2 : q * sz + j = k
    · rw [if_pos h2, if_pos (by omega), if_pos (by omega), if_pos hj]
    · rw [if_neg h2, if_neg (by omega)]
      obtain ⟨i, rfl⟩ : ∃ i, k = q * sz + i := ⟨k - q * sz, by omega⟩
      rw [show q * sz + i - q * sz = i by omega]
      have hi : i < (enc (l.getD q default)).length := by rw [henc]; omega
      rw [List.getElem?_eq_getElem hi]
      exact flat_get henc l q _ (getD_of default hq) i _ (List.getElem?_eq_getElem hi)
  · rw [if_neg h1, if_neg (by omega)]

theorem Own.setF [Inhabited α] {l : List α} {A : Option Addr} {nn c q j : Nat} {x : α} {u : Value} {w0 w : World} {M : Nat → Prop} {P : Program} (hM : SH w0 M H w) [hc : HChunk I H H1] (hO : Own sz e enc l (.slice A nn c) I) (henc : ∀ x, (enc x).length = sz) (h1 : u.oneCell' = true) (hq : q < l.length) (hj : j < sz) (hx : enc x = (enc (l.getD q default)).set j u) :
    ∃ I' w', (storeCells ((ad A).add (q * sz + j)) [u]).run P w = .ok () w' ∧ Own sz e enc (l.set q x) (.slice A nn c) I' ∧ SH w0 M (I' ++ H1) w' := by
  have m0 := hM.perm hc.perm
  rcases hO with ⟨_, hl, _⟩ | ⟨g, c', rest, hv, hI, hr, hle, hcm⟩
  · subst hl; simp at hq
  · cases hv
    subst hI
    have hfl := flat_len henc l
    have hin : q * sz + j < (l.flatMap enc).length := by
      rw [hfl]
      have : (q + 1) * sz ≤ l.length * sz := Nat.mul_le_mul_right _ hq
      rw [Nat.add_mul] at this; omega
    obtain ⟨w', hrun, m'⟩ := run_storeCells (P := P) [u] (q * sz + j) 0 (l.flatMap enc ++ rest) w m0 (by simpa using h1) (by simp only [List.length_append, List.length_singleton]; omega)
    have e1 : (ad (some ⟨g, 0, none⟩)).add (q * sz + j) = ⟨g, q * sz + j, none⟩ := by simp [ad, add_lit]
    rw [e1]
    refine ⟨[(g, blk ((l.set q x).flatMap enc ++ rest) e)], w', hrun, .inr ⟨g, c, rest, by simp, rfl, by simpa using hr, by simpa using hle, hcm⟩, ?_⟩
    have e2 : (l.flatMap enc ++ rest).take (q * sz + j + 0) ++ [u] ++ (l.flatMap enc ++ rest).drop (q * sz + j + 0 + [u].length) = (l.set q x).flatMap enc ++ rest := by
      have h3 : (l.flatMap enc ++ rest).set (q * sz + j) u = (l.set q x).flatMap enc ++ rest := by
        rw [List.set_append_left _ _ hin, flat_setF henc hq hj hx]
      rw [← h3]
      have h4 := setsAt_eq [u] (l.flatMap enc ++ rest) (q * sz + j) (by simp only [List.length_append, List.length_singleton]; omega)
      simp only [setsAt] at h4
      rw [h4, Nat.add_zero]
    rw [e2] at m'
    exact m'

section
variable {C : Cx} {L : Slots} {D : List Deferred} {k : List Item} {ops : Array Oper} {i : Nat} {o : Oper} {n : Tr} {pend : List Nat}
/-- s[q].f = u, s of the call's own. -/
theorem GT_storeF [Inhabited α] {t q j c nn : Nat} {x y : Operand} {A : Option Addr} {u : Value} {xx : α} {l : List α} [hc : HChunk I H H1] (ho : opAt ops i = some o) (hop : o.op = .store t x y) (hg : o.guard = none) (hd : o.dst = none)
    (hx : ev L x = some (.pointer (some ((ad A).add (q * sz + j))))) (hy : ev L y = some u) (hu : u.cells.toList = [u]) (hs : szOf C.P t = some 1) (hO : Own sz e enc l (.slice A nn c) I) (henc : ∀ x, (enc x).length = sz) (h1 : u.oneCell' = true) (hq : q < l.length) (hj : j < sz) (hxx : enc xx = (enc (l.getD q default)).set j u)
    (hp : ∀ I', Own sz e enc (l.set q xx) (.slice A nn c) I' → GR C ops L D (I' ++ H1) pend) (h : ∀ I', Own sz e enc (l.set q xx) (.slice A nn c) I' → GT C ops k L D (I' ++ H1) n) : GT C ops k L D H (.ld i pend n) := by
  refine GT_ld ho hg (by simp [Oper.isDefer, hop]) fun a w st mm => ?_
  obtain ⟨inf, hi, hsz1⟩ := Option.map_eq_some_iff.1 hs
  obtain ⟨I', w', hrun, hO', m'⟩ := Own.setF (P := C.P) (x := xx) mm hO henc h1 hq hj hxx
  have e1 : (execOp a.eval o).run C.P w = .ok .skip w' := by
    have hsz : u.cells.size = inf.size := by rw [hsz1]; have := congrArg List.length hu; simpa using this
    simp [execOp, hop, st.eval hx, st.eval hy, Instr.storeAt, Instr.sureAddr, storeVar, sizeOf, typeInfo, hi, hsz, hu, hrun]
  rw [e1]
  exact ⟨L, _, by rw [hd]; exact st, m', hp I' hO', h I' hO'⟩
end
theorem V_indexArrA {C : Cx} {L : Slots} {H : Items} {o : Oper} {t e sz len kk q : Nat} {a : Addr} {x y : Operand} {kd : IntKind} {z : Int} (ho : o.op = .indexAddr t x y) (hx : ev L x = some (.pointer (some (a.add q)))) (hy : ev L y = some (.int kd z)) (ht : C.P.underlying t = some (.array len e)) (hs : szOf C.P e = some sz)
    (hz : z = (kk : Int)) (hk : kk < len) : OpV C L H o (.pointer (some (a.add (q + kk * sz)))) := fun D act w s m => by
  obtain ⟨inf, hi, rfl⟩ := Option.map_eq_some_iff.1 hs
  subst hz
  simp [execOp, ho, s.eval hx, s.eval hy, Instr.indexAt, asIntOf, underlying, ht, hk, sizeOf, typeInfo, hi, Instr.sureAddr, add_add']
theorem lookS {L : Slots} {t n m c : Nat} {A : Option Addr} (h : Go.Sx.look L t = some (.slice A n c)) (e : n = m) : Go.Sx.look L t = some (.slice A m c) := e ▸ h
theorem V_shr {C : Cx} {L : Slots} {H : Items} {o : Oper} {t t' : TypeId} {x y : Operand} {k yk : IntKind} {a d : Int} {s : Nat} (ho : o.op = .binOp .shr t x y t') (hx : ev L x = some (.int k a)) (hy : ev L y = some (.int yk s)) (hs : s ≤ k.bits) (hd : d = 2 ^ s) : OpV C L H o (.int k (a / d)) := fun D act w st m => by
  have h1 : min s k.bits = s := Nat.min_eq_left hs
  have h2 : a.fdiv (2 ^ s) = a / d := by
    subst hd
    exact Int.fdiv_eq_ediv_of_nonneg a (Int.le_of_lt (Int.pow_pos (by decide)))
  have h0 : ¬ ((s : Int) < 0) := by omega
  simp [execOp, ho, st.eval hx, st.eval hy, eqGuard, binOp, Op.shift, h1, h2, h0]
section
variable {C : Cx} {L : Slots} {H : Items} {o : Oper} {t t' : TypeId} {x y : Operand} {p q : Bool}
theorem equal_bool {P : Program} {w : World} {t : TypeId} {p q : Bool} (ht : P.underlying t = some .bool) : (Op.equal t (.bool p) (.bool q)).run P w = .ok (p == q) w := by
  have h : ∀ d, (Op.equalIn (d + 1) t (.bool p) (.bool q)).run P w = .ok (p == q) w := fun d => by
    simp [Op.equalIn, underlying, ht]
  exact h _
theorem V_eqlBB (ho : o.op = .binOp .eql t x y t') (hx : ev L x = some (.bool p)) (hy : ev L y = some (.bool q)) (ht : C.P.underlying t = some .bool) : OpV C L H o (.bool (p == q)) := fun D act w st m => by
  simp [execOp, ho, st.eval hx, st.eval hy, eqGuard, binOp, equal_bool ht]
theorem V_neqBB (ho : o.op = .binOp .neq t x y t') (hx : ev L x = some (.bool p)) (hy : ev L y = some (.bool q)) (ht : C.P.underlying t = some .bool) : OpV C L H o (.bool (!(p == q))) := fun D act w st m => by
  simp [execOp, ho, st.eval hx, st.eval hy, eqGuard, binOp, equal_bool ht]
theorem V_eqlBB_same (ho : o.op = .binOp .eql t x y t') (hx : ev L x = some (.bool p)) (hy : ev L y = some (.bool q)) (ht : C.P.underlying t = some .bool) (h : p = q) : OpV C L H o (.bool true) := by
  have := V_eqlBB (H := H) ho hx hy ht
  subst h; simpa using this
theorem V_neqBB_same (ho : o.op = .binOp .neq t x y t') (hx : ev L x = some (.bool p)) (hy : ev L y = some (.bool q)) (ht : C.P.underlying t = some .bool) (h : p = q) : OpV C L H o (.bool false) := by
  have := V_neqBB (H := H) ho hx hy ht
  subst h; simpa using this
end
end Go.Sx
