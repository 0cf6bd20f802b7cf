/- Texts of this proof, one behind the other: Sx9, SxA, SxB, SxC, SxD, SxE, SxF, SxG. -/
import Derived.Test.YtncleikbggjmjaaGreatDoorMt9
import Derived.ProofKit
import Derived.OpenShut
import Derived.Carry
import Derived.Deep.Slices
/-
  From a walk that comes to true to the row's statement: what comes in is read, what stands reads as it did.
-/
namespace Go.Sx
open Go.RowKit Go.ChangeShapes Go.WideShapes
/-! ### what comes in -/
def Dat (P : Program) (W : World) (t : TypeId) (cs : List Value) : Prop :=
  ∃ (H : Type) (enc : TypeId × Value → H) (n : Nat) (x : DataW H × List MemPlace), DataW.trod enc P W 0 (fun _ => true) true n t cs = some x
theorem Dat.of {H : Type} {enc : TypeId × Value → H} {P : Program} {W : World} {t : TypeId} {v : Value} {d : DataW H} {p : List MemPlace} (h : DataW.Trod enc P W 0 (fun _ => true) true t v d p) : Dat P W t v.cells.toList := by
  obtain ⟨n, hn⟩ := h
  exact ⟨H, enc, n, _, hn⟩
section
variable {P : Program} {W : World} {t e : TypeId} {cs : List Value}
theorem Dat.int {k : IntKind} (ht : P.underlying t = some (.int k)) (h : Dat P W t cs) : ∃ n, cs = [.int k n] ∧ (Lit.int k n).wf = true := by
  obtain ⟨H, enc, n, x, h⟩ := h
  obtain ⟨z, h1, _, h2⟩ := DataW.trod_int ht h
  exact ⟨z, h1, h2⟩
theorem Dat.bool (ht : P.underlying t = some .bool) (h : Dat P W t cs) : ∃ b, cs = [.bool b] := by
  obtain ⟨H, enc, n, x, h⟩ := h
  obtain ⟨z, h1, _⟩ := DataW.trod_bool ht h
  exact ⟨z, h1⟩
theorem Dat.string (ht : P.underlying t = some .string) (h : Dat P W t cs) : ∃ s : ByteArray, cs = [.string s] ∧ s.size ≤ maxLen := by
  obtain ⟨H, enc, n, x, h⟩ := h
  obtain ⟨z, h1, _, h2⟩ := DataW.trod_string ht h
  exact ⟨z, h1, h2⟩
theorem Dat.struct {fs : Array Field} (ht : P.underlying t = some (.struct fs)) (h : Dat P W t cs) : cs.length = P.cellsOf t ∧ ∀ (j : Nat) (f : Field), fs[j]? = some f → Dat P W f.type ((cs.drop f.offset).take (P.cellsOf f.type)) := by
  obtain ⟨H, enc, n, x, h⟩ := h
  obtain ⟨ys, m, _, _, hl, hyl, hf⟩ := DataW.trod_struct ht h
  refine ⟨hl, fun j f hj => ?_⟩
  have h1 := hf j f hj
  have hlt : j < ys.length := by rw [hyl]; exact (Array.getElem?_eq_some_iff.1 hj).1
  rw [List.getElem?_eq_getElem hlt] at h1
  exact ⟨H, enc, _, _, h1⟩
theorem Dat.array {n : Nat} (ht : P.underlying t = some (.array n e)) (h : Dat P W t cs) : cs.length = P.cellsOf t ∧ ∀ i, i < n → Dat P W e ((cs.drop (i * P.cellsOf e)).take (P.cellsOf e)) := by
  obtain ⟨H, enc, m, x, h⟩ := h
  obtain ⟨ys, m', _, _, hl, hyl, hf⟩ := DataW.trod_array ht h
  refine ⟨hl, fun i hi => ?_⟩
  have h1 := hf i hi
  rw [List.getElem?_eq_getElem (by omega)] at h1
  exact ⟨H, enc, _, _, h1⟩
theorem choose_list {α : Type} (p : Nat → α → Prop) : ∀ n, (∀ i, i < n → ∃ x, p i x) → ∃ l : List α, l.length = n ∧ ∀ i x, l[i]? = some x → p i x
  | 0, _ => ⟨[], rfl, fun i x h => by simp at h⟩
  | n + 1, h => by
    obtain ⟨l, hl, hp⟩ := choose_list p n (fun i hi => h i (by omega))
    obtain ⟨x, hx⟩ := h n (by omega)
    refine ⟨l ++ [x], by simp [hl], fun i y hy => ?_⟩
    by_cases hi : i < l.length
    · rw [List.getElem?_append_left hi] at hy; exact hp i y hy
    · rw [List.getElem?_append_right (by omega)] at hy
      have : i - l.length = 0 := by
        rcases Nat.eq_zero_or_pos (i - l.length) with h0 | h0
        · exact h0
        · rw [List.getElem?_eq_none (by simp; omega)] at hy; cases hy
      rw [this] at hy
      simp only [List.getElem?_cons_zero, Option.some.injEq] at hy
      subst hy
      rw [show i = n by omega]; exact hx
theorem Dat.slice {α : Type} {enc : α → List Value} {G : α → Prop} (sz : Nat) (ht : P.underlying t = some (.slice e)) (hsz : P.cellsOf e = sz) (hdec : ∀ cs, Dat P W e cs → ∃ x, G x ∧ cs = enc x) (henc : ∀ x, (enc x).length = sz) (h : Dat P W t cs) :
    ∃ A l c, cs = [.slice A (List.length l) c] ∧ RdL W sz enc A l ∧ (∀ x ∈ l, G x) ∧ l.length ≤ c ∧ c ≤ maxLen := by
  subst hsz
  obtain ⟨H, enc', n, x, h⟩ := h
  rcases Go.Deep.open_slice ht h with ⟨rfl, _⟩ | ⟨a, len, cap, m, n', D, Pl, rfl, _, hl, hm, hmm, _, hi⟩
  · exact ⟨none, [], 0, rfl, RdL.nil, by simp, by simp, by simp⟩
  · obtain ⟨l, hll, hlp⟩ := choose_list (fun i x => G x ∧ W.cells? 0 (a.add (i * P.cellsOf e)) (P.cellsOf e) = some (enc x)) len (fun i hil => by
      have hmlen : len ≤ m := by rw [hmm]; simp; exact hl
      obtain ⟨cs', hc, ht'⟩ := hi i (by omega)
      obtain ⟨x, hG, rfl⟩ := hdec cs' ⟨H, enc', _, _, ht'⟩
      exact ⟨x, hG, hc⟩)
    refine ⟨some a, l, cap, by rw [hll], ⟨fun _ => rfl, fun k x hk j v hv => ?_⟩, fun x hx => ?_, by omega, hm⟩
    · obtain ⟨_, hc⟩ := hlp k x hk
      obtain ⟨_, hcl, hat⟩ := World.cells?_some hc
      have hj : j < P.cellsOf e := by have := (List.getElem?_eq_some_iff.1 hv).1; rw [henc] at this; exact this
      have := hat j hj
      rw [hv] at this
      rw [← this]
      show W.cell? (a.add (k * P.cellsOf e + j)) = _
      rw [Go.Deep.add_add]
    · obtain ⟨i, hi2⟩ := List.getElem?_of_mem hx
      exact (hlp i x hi2).1
end
/-! structs and arrays of integers -/
theorem ints_of {k : IntKind} : ∀ (cs : List Value), (∀ j, j < cs.length → ∃ z, (cs.drop j).take 1 = [.int k z] ∧ (Lit.int k z).wf = true) → ∃ zs : List Int, cs = zs.map (fun z => Value.int k z) ∧ ∀ z ∈ zs, (Lit.int k z).wf = true
  | [], _ => ⟨[], rfl, by simp⟩
  | c :: cs, h => by
    obtain ⟨zs, h1, h2⟩ := ints_of cs (fun j hj => by simpa using h (j + 1) (by simp; omega))
    obtain ⟨z, h3, h4⟩ := h 0 (by simp)
    simp at h3
    refine ⟨z :: zs, by rw [h1, h3]; rfl, fun y hy => ?_⟩
    rcases List.mem_cons.1 hy with rfl | hy
    · exact h4
    · exact h2 y hy
theorem Dat.intArray {P : Program} {W : World} {t e : TypeId} {cs : List Value} {n : Nat} {k : IntKind} (ht : P.underlying t = some (.array n e)) (hk : P.underlying e = some (.int k)) (he : P.cellsOf e = 1) (hC : P.cellsOf t = n) (h : Dat P W t cs) : ∃ zs : List Int, zs.length = n ∧ cs = zs.map (fun z => Value.int k z) ∧ ∀ z ∈ zs, (Lit.int k z).wf = true := by
  obtain ⟨hl, hg⟩ := h.array ht
  obtain ⟨zs, h1, h2⟩ := ints_of (k := k) cs (fun j hj => by
    have h4 := hg j (by omega)
    rw [he, Nat.mul_one] at h4
    exact h4.int hk)
  exact ⟨zs, by rw [← hC, ← hl, h1]; simp, h1, h2⟩
/-! ### what stands reads as it did -/
theorem trodAll_stays {H : Type} {enc : TypeId × Value → H} {P : Program} (hl : laidOutB P = true) {W W' : World} (hb : Below W.heap.size W W') {sp : Nat → Bool} : ∀ {ts : List TypeId} {vs : List Value} {ds : List (DataW H)} {ps : List MemPlace},
    (ts.all fun t => P.readableRec t && decide (t < P.types.size)) = true → DataW.TrodAll enc P W 0 (fun _ => true) true ts vs ds ps → (∀ p ∈ ps, p.block < W.heap.size ∧ sp p.block = true) → DataW.TrodAll enc P W' 0 sp true ts vs ds ps
  | [], vs, ds, ps, _, h, _ => by
    obtain ⟨rfl, rfl, rfl⟩ := trodAll_nil h
    exact trodAll_mk0
  | t :: ts, vs, ds, ps, hr, h, hp => by
    obtain ⟨v, vs', d, ds', p, q, rfl, rfl, rfl, h1, h2⟩ := trodAll_cons h
    simp only [List.all_cons, Bool.and_eq_true, decide_eq_true_eq] at hr
    exact trodAll_cons_mk (WideElems.Trod_stays hl hr.1.1 hr.1.2 h1 (fun x hx => hb.same (hp x (List.mem_append_left _ hx)).1) (fun x hx => (hp x (List.mem_append_left _ hx)).2))
      (trodAll_stays hl hb (by simpa using hr.2) h2 (fun x hx => hp x (List.mem_append_right _ hx)))
theorem post_true {H : Type} {enc : TypeId × Value → H} {P : Program} {f : Func} {s : ChangeSpec} {fresh handsOn again : Bool} {W W' : World} {args : Array Value} {ds gs : List (DataW H)} {before : List MemPlace} {tb : TypeId}
    (hW : DataW.Whole enc P f.params.toList s.vars false W args.toList ds gs before) (hv : s.vars = []) (hb : Below W.heap.size W W') (hl : laidOutB P = true) (hr : (f.params.toList.all fun t => P.readableRec t && decide (t < P.types.size)) = true)
    (hres : f.resultTypes = #[tb]) (htb : P.underlying tb = some .bool) (h1 : (s.fn H (ds ++ gs)).results = [.lit (.bool true)]) (h2 : (s.fn H (ds ++ gs)).args = ds) (h3 : (s.fn H (ds ++ gs)).vars = []) :
    s.post enc P f false fresh handsOn again W args (.bool true) W' := by
  have hlt := fun p hp => hW.lt (p := p) hp
  have hW' := hW
  obtain ⟨p, q, hA, hV, rfl, hz, hn⟩ := hW'
  rw [hv] at hV
  obtain ⟨rfl, rfl⟩ := trodVars_none hV
  simp only [List.append_nil] at hlt hz hn hW h1 h2 h3 ⊢
  have hA' : ∀ sp : Nat → Bool, (∀ x ∈ p, sp x.block = true) → DataW.TrodAll enc P W' 0 sp true f.params.toList args.toList ds p := fun sp hs => trodAll_stays hl hb hr hA (fun x hx => ⟨hlt x hx, hs x hx⟩)
  have hR : ∀ (b : Nat) (sp : Nat → Bool) (hd : Bool), DataW.TrodAll enc P W' b sp hd f.resultTypes.toList ((Value.bool true).resultList f.resultTypes.size) [.lit (.bool true)] [] := fun b sp hd => by
    rw [hres]; exact trodAll_mk1 (shut_bool htb _)
  refine ⟨ds, [], p, [], p, [], hW, ?_, ?_, ?_, ?_, fun _ => ⟨?_, [.lit (.bool true)] ++ ds, [], [] ++ p, ⟨[] ++ p, [], trodAll_append (hA' _ (fun _ _ => rfl)) (hR 0 (fun _ => true) true), ?_, by simp, ?_, fun h => by cases h⟩, ?_⟩⟩
  · simp only [List.append_nil]; rw [h1]; exact hR _ _ _
  · simp only [List.append_nil]; rw [h2]; exact hA' _ (fun x hx => by simpa using hlt x hx)
  · simp only [List.append_nil]; rw [h3, hv]; rfl
  · exact hb.frame _
  · exact ok_one hres rfl (okWide_bool_mk htb _)
  · rw [hv]; rfl
  · intro b off hp
    have h4 : (MemPlace.cell b off).block < W.heap.size := hlt _ (by simpa using hp)
    have h5 := hz b off (by simpa using hp)
    unfold World.frozen? at h5 ⊢
    rw [show W'.heap[(⟨b, off, none⟩ : Addr).block]? = W.heap[(⟨b, off, none⟩ : Addr).block]? from hb.block b h4]; exact h5
  · intro x hx _; simpa using hx
end Go.Sx
/-
  A field of an element of a slice of the call's own is stored.
-/
namespace Go.Sx
open Go.RowKit
theorem setsAt_get : ∀ (vs l : List Value) (q k : Nat), (setsAt l q vs)[k]? = if q ≤ k ∧ k < q + vs.length ∧ k < l.length then vs[k - q]? else l[k]?
  | [], l, q, k => by rw [if_neg (by simp; omega)]; rfl
  | v :: vs, l, q, k => by
    rw [setsAt, setsAt_get vs (l.set q v) (q + 1) k]
    simp only [List.length_cons, List.length_set]
    by_cases h1 : q + 1 ≤ k ∧ k < q + 1 + vs.length ∧ k < l.length
    · rw [if_pos h1, if_pos (by omega), show k - q = (k - (q + 1)) + 1 by omega, List.getElem?_cons_succ]
    · rw [if_neg h1]
      by_cases h2 : q ≤ k ∧ k < q + (vs.length + 1) ∧ k < l.length
      · rw [if_pos h2]
        obtain rfl : k = q := by omega
        simp [h2.2.2]
      · rw [if_neg h2, List.getElem?_set]
        split
        · rename_i e
          subst e
          rw [List.getElem?_eq_none (by omega), if_neg (by omega)]
        · rfl
variable {α : Type} {sz : Nat} {e : TypeId} {enc : α → List Value} {H H1 I : Items}
theorem flat_setF [Inhabited α] {l : List α} {q j : Nat} {u : Value} {x : α} (henc : ∀ x, (enc x).length = sz) (hq : q < l.length) (hj : j < sz) (hx : enc x = (enc (l.getD q default)).set j u) : (l.flatMap enc).set (q * sz + j) u = (l.set q x).flatMap enc := by
  rw [← flat_set henc (by omega) l q x hq]
  apply List.ext_getElem?
  intro k
  have hlen := flat_len henc l
  have hle : (q + 1) * sz ≤ l.length * sz := Nat.mul_le_mul_right _ hq
  rw [Nat.add_mul] at hle
  rw [setsAt_get, List.getElem?_set, henc]
  by_cases h1 : q * sz ≤ k ∧ k < q * sz + sz ∧ k < (l.flatMap enc).length
  · rw [if_pos h1, hx, List.getElem?_set, henc]
    by_cases h2 : q * sz + j = k
    · rw [if_pos h2, if_pos (by omega), if_pos (by omega), if_pos hj]
    · rw [if_neg h2, if_neg (by omega)]
      obtain ⟨i, rfl⟩ : ∃ i, k = q * sz + i := ⟨k - q * sz, by omega⟩
      rw [show q * sz + i - q * sz = i by omega]
      have hi : i < (enc (l.getD q default)).length := by rw [henc]; omega
      rw [List.getElem?_eq_getElem hi]
      exact flat_get henc l q _ (getD_of default hq) i _ (List.getElem?_eq_getElem hi)
  · rw [if_neg h1, if_neg (by omega)]
theorem Own.setF [Inhabited α] {l : List α} {A : Option Addr} {nn c q j : Nat} {x : α} {u : Value} {w0 w : World} {M : Nat → Prop} {P : Program} (hM : SH w0 M H w) [hc : HChunk I H H1] (hO : Own sz e enc l (.slice A nn c) I) (henc : ∀ x, (enc x).length = sz) (h1 : u.oneCell' = true) (hq : q < l.length) (hj : j < sz) (hx : enc x = (enc (l.getD q default)).set j u) :
    ∃ I' w', (storeCells ((ad A).add (q * sz + j)) [u]).run P w = .ok () w' ∧ Own sz e enc (l.set q x) (.slice A nn c) I' ∧ SH w0 M (I' ++ H1) w' := by
  have m0 := hM.perm hc.perm
  rcases hO with ⟨_, hl, _⟩ | ⟨g, c', rest, hv, hI, hr, hle, hcm⟩
  · subst hl; simp at hq
  · cases hv
    subst hI
    have hfl := flat_len henc l
    have hin : q * sz + j < (l.flatMap enc).length := by
      rw [hfl]
      have : (q + 1) * sz ≤ l.length * sz := Nat.mul_le_mul_right _ hq
      rw [Nat.add_mul] at this; omega
    obtain ⟨w', hrun, m'⟩ := run_storeCells (P := P) [u] (q * sz + j) 0 (l.flatMap enc ++ rest) w m0 (by simpa using h1) (by simp only [List.length_append, List.length_singleton]; omega)
    have e1 : (ad (some ⟨g, 0, none⟩)).add (q * sz + j) = ⟨g, q * sz + j, none⟩ := by simp [ad, add_lit]
    rw [e1]
    refine ⟨[(g, blk ((l.set q x).flatMap enc ++ rest) e)], w', hrun, .inr ⟨g, c, rest, by simp, rfl, by simpa using hr, by simpa using hle, hcm⟩, ?_⟩
    have e2 : (l.flatMap enc ++ rest).take (q * sz + j + 0) ++ [u] ++ (l.flatMap enc ++ rest).drop (q * sz + j + 0 + [u].length) = (l.set q x).flatMap enc ++ rest := by
      have h3 : (l.flatMap enc ++ rest).set (q * sz + j) u = (l.set q x).flatMap enc ++ rest := by
        rw [List.set_append_left _ _ hin, flat_setF henc hq hj hx]
      rw [← h3]
      have h4 := setsAt_eq [u] (l.flatMap enc ++ rest) (q * sz + j) (by simp only [List.length_append, List.length_singleton]; omega)
      simp only [setsAt] at h4
      rw [h4, Nat.add_zero]
    rw [e2] at m'
    exact m'
section
variable {C : Cx} {L : Slots} {D : List Deferred} {k : List Item} {ops : Array Oper} {i : Nat} {o : Oper} {n : Tr} {pend : List Nat}
theorem GT_storeF [Inhabited α] {t q j c nn : Nat} {x y : Operand} {A : Option Addr} {u : Value} {xx : α} {l : List α} [hc : HChunk I H H1] (ho : opAt ops i = some o) (hop : o.op = .store t x y) (hg : o.guard = none) (hd : o.dst = none)
    (hx : ev L x = some (.pointer (some ((ad A).add (q * sz + j))))) (hy : ev L y = some u) (hu : u.cells.toList = [u]) (hs : szOf C.P t = some 1) (hO : Own sz e enc l (.slice A nn c) I) (henc : ∀ x, (enc x).length = sz) (h1 : u.oneCell' = true) (hq : q < l.length) (hj : j < sz) (hxx : enc xx = (enc (l.getD q default)).set j u)
    (hp : ∀ I', Own sz e enc (l.set q xx) (.slice A nn c) I' → GR C ops L D (I' ++ H1) pend) (h : ∀ I', Own sz e enc (l.set q xx) (.slice A nn c) I' → GT C ops k L D (I' ++ H1) n) : GT C ops k L D H (.ld i pend n) := by
  refine GT_ld ho hg (by simp [Oper.isDefer, hop]) fun a w st mm => ?_
  obtain ⟨inf, hi, hsz1⟩ := Option.map_eq_some_iff.1 hs
  obtain ⟨I', w', hrun, hO', m'⟩ := Own.setF (P := C.P) (x := xx) mm hO henc h1 hq hj hxx
  have e1 : (execOp a.eval o).run C.P w = .ok .skip w' := by
    have hsz : u.cells.size = inf.size := by rw [hsz1]; have := congrArg List.length hu; simpa using this
    simp [execOp, hop, st.eval hx, st.eval hy, Instr.storeAt, Instr.sureAddr, storeVar, sizeOf, typeInfo, hi, hsz, hu, hrun]
  rw [e1]
  exact ⟨L, _, by rw [hd]; exact st, m', hp I' hO', h I' hO'⟩
end
theorem V_indexArrA {C : Cx} {L : Slots} {H : Items} {o : Oper} {t e sz len kk q : Nat} {a : Addr} {x y : Operand} {kd : IntKind} {z : Int} (ho : o.op = .indexAddr t x y) (hx : ev L x = some (.pointer (some (a.add q)))) (hy : ev L y = some (.int kd z)) (ht : C.P.underlying t = some (.array len e)) (hs : szOf C.P e = some sz)
    (hz : z = (kk : Int)) (hk : kk < len) : OpV C L H o (.pointer (some (a.add (q + kk * sz)))) := fun D act w s m => by
  obtain ⟨inf, hi, rfl⟩ := Option.map_eq_some_iff.1 hs
  subst hz
  simp [execOp, ho, s.eval hx, s.eval hy, Instr.indexAt, asIntOf, underlying, ht, hk, sizeOf, typeInfo, hi, Instr.sureAddr, add_add']
theorem lookS {L : Slots} {t n m c : Nat} {A : Option Addr} (h : Go.Sx.look L t = some (.slice A n c)) (e : n = m) : Go.Sx.look L t = some (.slice A m c) := e ▸ h
theorem V_shr {C : Cx} {L : Slots} {H : Items} {o : Oper} {t t' : TypeId} {x y : Operand} {k yk : IntKind} {a d : Int} {s : Nat} (ho : o.op = .binOp .shr t x y t') (hx : ev L x = some (.int k a)) (hy : ev L y = some (.int yk s)) (hs : s ≤ k.bits) (hd : d = 2 ^ s) : OpV C L H o (.int k (a / d)) := fun D act w st m => by
  have h1 : min s k.bits = s := Nat.min_eq_left hs
  have h2 : a.fdiv (2 ^ s) = a / d := by
    subst hd
    exact Int.fdiv_eq_ediv_of_nonneg a (Int.le_of_lt (Int.pow_pos (by decide)))
  have h0 : ¬ ((s : Int) < 0) := by omega
  simp [execOp, ho, st.eval hx, st.eval hy, eqGuard, binOp, Op.shift, h1, h2, h0]
section
variable {C : Cx} {L : Slots} {H : Items} {o : Oper} {t t' : TypeId} {x y : Operand} {p q : Bool}
theorem equal_bool {P : Program} {w : World} {t : TypeId} {p q : Bool} (ht : P.underlying t = some .bool) : (Op.equal t (.bool p) (.bool q)).run P w = .ok (p == q) w := by
  have h : ∀ d, (Op.equalIn (d + 1) t (.bool p) (.bool q)).run P w = .ok (p == q) w := fun d => by
    simp [Op.equalIn, underlying, ht]
  exact h _
theorem V_neqBB (ho : o.op = .binOp .neq t x y t') (hx : ev L x = some (.bool p)) (hy : ev L y = some (.bool q)) (ht : C.P.underlying t = some .bool) : OpV C L H o (.bool (!(p == q))) := fun D act w st m => by
  simp [execOp, ho, st.eval hx, st.eval hy, eqGuard, binOp, equal_bool ht]
end
end Go.Sx
/-
  Slices of slices.
-/
namespace Go.Sx
open Go.RowKit
def slA (c lo sz : Nat) (A : Option Addr) : Option Addr := if c = lo then A else A.map (·.add (lo * sz))
theorem RdL.drop {α : Type} {w : World} {sz : Nat} {enc : α → List Value} {A : Option Addr} {l : List α} (h : RdL w sz enc A l) {c : Nat} (lo : Nat) (hc : l.length ≤ c) : RdL w sz enc (slA c lo sz A) (l.drop lo) := by
  by_cases hn : l.length ≤ lo
  · rw [List.drop_eq_nil_of_le hn]; exact RdL.nil
  · have hs : A.isSome = true := h.isSome (k := 0) (by omega)
    obtain ⟨a, rfl⟩ := Option.isSome_iff_exists.1 hs
    unfold slA
    rw [if_neg (by omega)]
    refine ⟨fun _ => rfl, fun k x hk j v hv => ?_⟩
    rw [List.getElem?_drop] at hk
    have := h.cell (lo + k) x hk j v hv
    simp only [ad, Option.map_some, Option.getD_some, add_add'] at this ⊢
    rw [← this]; congr 2; rw [Nat.add_mul]; omega
section
variable {C : Cx} {L : Slots} {H : Items} {o : Oper} {t e n c lo hi sz : Nat} {A : Option Addr} {x y z : Operand} {kd kz : IntKind}
theorem V_sliceFrom (ho : o.op = .slice t x (some y) none none) (hx : ev L x = some (.slice A n c)) (hy : ev L y = some (.int kd (lo : Int))) (ht : C.P.underlying t = some (.slice e))
    (hs : szOf C.P e = some sz) (hh : lo ≤ n) : OpV C L H o (.slice (slA c lo sz A) (n - lo) (c - lo)) := fun D a w s m => by
  obtain ⟨i, hi, rfl⟩ := Option.map_eq_some_iff.1 hs
  simp [execOp, ho, s.eval hx, s.eval hy, Instr.sliceAt, underlying, ht, Instr.slice, Instr.sliceBounds, Instr.sliceBound, asIntOf, hh, sizeOf, typeInfo, hi, slA]
end
end Go.Sx
/-
  Cells of a block, by their place in it.
-/
namespace Go.Sx
open Go.RowKit
section
variable {α : Type} {sz : Nat} {e : TypeId} {enc : α → List Value} {l : List α} {H H1 I : Items}
theorem CellAt.ownQ [Inhabited α] {C : Cx} {g a n c k j : Nat} {u : Value} (h : Own sz e enc l (.slice (some ⟨g, 0, none⟩) n c) I) [HChunk I H H1] (hs : ∀ x, (enc x).length = sz) (hk : k < l.length) (ha : a = k * sz + j) (hv : (enc (l.getD k default))[j]? = some u) : CellAt C H ⟨g, a, none⟩ u := by
  subst ha
  have := CellAt.own (C := C) (H := H) (H1 := H1) h hs hk hv
  simpa [ad, add_lit] using this
theorem RdL.atQ [Inhabited α] {C : Cx} {g a k j : Nat} {u : Value} (h : RdL C.w0 sz enc (some ⟨g, 0, none⟩) l) (hM : ∀ b, ¬ C.M b) (hk : k < l.length) (ha : a = k * sz + j) (hv : (enc (l.getD k default))[j]? = some u) : CellAt C H ⟨g, a, none⟩ u := by
  subst ha
  have := h.at1 (H := H) hM hk hv
  simpa [ad, add_lit] using this
theorem Own.full {g n : Nat} (h : Own sz e enc l (.slice (some ⟨g, 0, none⟩) n n) I) (hn : n = l.length) : I = [(g, blk (l.flatMap enc) e)] := by
  rcases h with ⟨h, _⟩ | ⟨g', c', rest, h, hI, hr, _⟩
  · cases h
  · injection h with h1 h2 h3
    injection h1 with h1
    injection h1 with h1
    subst h1 h3 hn
    rw [Nat.sub_self, Nat.zero_mul] at hr
    rw [hI, List.eq_nil_of_length_eq_zero hr, List.append_nil]
variable {C : Cx} {L : Slots} {D : List Deferred} {k : List Item} {ops : Array Oper} {i : Nat} {o : Oper} {n : Tr} {pend : List Nat}
theorem GT_storeOwnQ {t q c nn g a : Nat} {x y : Operand} {u : Value} {xx : α} [hc : HChunk I H H1] (ho : opAt ops i = some o) (hop : o.op = .store t x y) (hg : o.guard = none) (hd : o.dst = none)
    (hx : ev L x = some (.pointer (some ⟨g, a, none⟩))) (hy : ev L y = some u) (hu : u.cells.toList = enc xx) (hs : szOf C.P t = some sz) (hO : Own sz e enc l (.slice (some ⟨g, 0, none⟩) nn c) I) (henc : ∀ x, (enc x).length = sz) (h1 : ∀ x, ∀ u ∈ enc x, u.oneCell' = true) (ha : a = q * sz) (hq : q < l.length) (h0 : 0 < sz)
    (hp : ∀ I', Own sz e enc (l.set q xx) (.slice (some ⟨g, 0, none⟩) nn c) I' → GR C ops L D (I' ++ H1) pend) (h : ∀ I', Own sz e enc (l.set q xx) (.slice (some ⟨g, 0, none⟩) nn c) I' → GT C ops k L D (I' ++ H1) n) : GT C ops k L D H (.ld i pend n) :=
  GT_storeOwn ho hop hg hd (by rw [hx, ha]; simp [ad, add_lit]) hy hu hs hO henc h1 hq h0 hp h
end
end Go.Sx
/-
  Slices that are cleared; slices that are compared with nil.
-/
namespace Go.Sx
open Go.RowKit
theorem zeroCells_one (u : Value) (n : Nat) : (Builtin.zeroCells #[u] n).toList = List.replicate n u := by
  unfold Builtin.zeroCells
  rw [Array.toList_map, Array.toList_range]
  apply List.ext_getElem (by simp)
  intro i h1 h2
  simp [Nat.mod_one]
section
variable {α : Type} {e : TypeId} {enc : α → List Value} {l : List α} {H H1 I : Items}
theorem flat_drop (henc : ∀ x, (enc x).length = 1) (k : Nat) (hk : k ≤ l.length) : (l.drop k).flatMap enc = (l.flatMap enc).drop k := by
  have e1 : l.flatMap enc = (l.take k).flatMap enc ++ (l.drop k).flatMap enc := by rw [← List.flatMap_append, List.take_append_drop]
  have e2 : ((l.take k).flatMap enc).length = k := by rw [flat_len henc, List.length_take]; omega
  rw [e1, List.drop_left' e2]
theorem Own.clr {A : Option Addr} {nn c k : Nat} {x : α} {u : Value} {w0 w : World} {M : Nat → Prop} {P : Program} (hM : SH w0 M H w) [hc : HChunk I H H1] (hO : Own 1 e enc l (.slice A nn c) I) (henc : ∀ x, (enc x).length = 1) (h1 : u.oneCell' = true) (hx : enc x = [u]) (hk : k ≤ l.length) (h0 : 0 < k) :
    ∃ g I' w', A = some ⟨g, 0, none⟩ ∧ (storeCells ⟨g, 0, none⟩ (List.replicate k u)).run P w = .ok () w' ∧ Own 1 e enc (List.replicate k x ++ l.drop k) (.slice A nn c) I' ∧ SH w0 M (I' ++ H1) w' := by
  have m0 := hM.perm hc.perm
  rcases hO with ⟨_, hl, _⟩ | ⟨g, c', rest, hv, hI, hr, hle, hcm⟩
  · subst hl; simp at hk; omega
  · injection hv with hv1 hv2 hv3
    subst hv1 hv2 hv3
    subst hI
    have hfl := flat_len henc l
    obtain ⟨w', hrun, m'⟩ := run_storeCells (P := P) (List.replicate k u) 0 0 (l.flatMap enc ++ rest) w m0 (fun v hv => by rw [(List.mem_replicate.1 hv).2]; exact h1) (by simp only [List.length_append, List.length_replicate]; omega)
    refine ⟨g, [(g, blk ((List.replicate k x ++ l.drop k).flatMap enc ++ rest) e)], w', rfl, hrun, .inr ⟨g, c, rest, ?_, rfl, ?_, ?_, hcm⟩, ?_⟩
    · simp only [List.length_append, List.length_replicate, List.length_drop]; congr 1; omega
    · rw [hr]; simp only [List.length_append, List.length_replicate, List.length_drop]; congr 2; omega
    · simp only [List.length_append, List.length_replicate, List.length_drop]; omega
    · have e2 : (l.flatMap enc ++ rest).take (0 + 0) ++ List.replicate k u ++ (l.flatMap enc ++ rest).drop (0 + 0 + (List.replicate k u).length) = (List.replicate k x ++ l.drop k).flatMap enc ++ rest := by
        rw [List.flatMap_append, flat_drop henc k hk, List.length_replicate]
        have e3 : (List.replicate k x).flatMap enc = List.replicate k u := by
          rw [List.flatMap_replicate, hx]; clear hrun m' h0 hk; induction k with
          | zero => rfl
          | succ k ih => rw [List.replicate_succ, List.replicate_succ, List.flatten_cons, ih]; rfl
        rw [e3]
        simp only [Nat.add_zero, Nat.zero_add, List.take_zero, List.nil_append]
        rw [List.drop_append_of_le_length (by omega), List.append_assoc]
      rw [e2] at m'
      exact m'
variable {C : Cx} {L : Slots} {D : List Deferred} {k : List Item} {ops : Array Oper} {i : Nat} {o : Oper} {n : Tr} {pend : List Nat}
theorem GT_clear {t q c c' nn : Nat} {x : Operand} {A : Option Addr} {u : Value} {xx : α} [hc : HChunk I H H1] (ho : opAt ops i = some o) (hop : o.op = .call { callee := .builtin .clear, args := #[x], argTypes := #[t] }) (hg : o.guard = none) (hd : o.dst = none)
    (hx : ev L x = some (.slice A q c')) (hO : Own 1 e enc l (.slice A nn c) I) (ht : C.P.underlying t = some (.slice e)) (hz : zcOf C.P e = some [u]) (henc : ∀ x, (enc x).length = 1) (h1 : u.oneCell' = true) (hxx : enc xx = [u]) (hq : q ≤ l.length)
    (hp : ∀ I', Own 1 e enc (List.replicate q xx ++ l.drop q) (.slice A nn c) I' → GR C ops L D (I' ++ H1) pend) (h : ∀ I', Own 1 e enc (List.replicate q xx ++ l.drop q) (.slice A nn c) I' → GT C ops k L D (I' ++ H1) n) : GT C ops k L D H (.ld i pend n) := by
  refine GT_ld ho hg (by simp [Oper.isDefer, hop]) fun a w st mm => ?_
  rcases Nat.eq_zero_or_pos q with rfl | h0
  · have e1 : (execOp a.eval o).run C.P w = .ok (.value (.tuple #[])) w := by
      cases A <;> simp [execOp, hop, resolve, invoke, builtin, st.eval hx, Builtin.clear_, underlying, ht]
    rw [e1]
    have e2 : List.replicate 0 xx ++ l.drop 0 = l := rfl
    rw [e2] at hp h
    exact ⟨L, _, by rw [hd]; exact st, mm.perm hc.perm, hp I hO, h I hO⟩
  · obtain ⟨g, I', w', rfl, hrun, hO', m'⟩ := Own.clr (P := C.P) (x := xx) mm hO henc h1 hxx hq h0
    obtain ⟨v, hv, hvc⟩ := Option.map_eq_some_iff.1 hz
    obtain ⟨inf, hi, hz0⟩ := Option.bind_eq_some_iff.1 hv
    have hcells : v.cells = #[u] := Array.toList_inj.1 hvc
    obtain ⟨q', rfl⟩ : ∃ q', q = q' + 1 := ⟨q - 1, by omega⟩
    have e1 : (execOp a.eval o).run C.P w = .ok (.value (.tuple #[])) w' := by
      simp [execOp, hop, resolve, invoke, builtin, st.eval hx, Builtin.clear_, underlying, ht, zeroValue, typeInfo, hi, hz0, hcells, zeroCells_one, hrun]
    rw [e1]
    exact ⟨L, _, by rw [hd]; exact st, m', hp I' hO', h I' hO'⟩
theorem V_eqlNilF {t t' e q c : Nat} {x y : Operand} {g : Addr} (ho : o.op = .binOp .eql t x y t') (hx : ev L x = some (.slice (some g) q c)) (hy : ev L y = some (.slice none 0 0)) (ht : C.P.underlying t = some (.slice e)) : OpV C L H o (.bool false) := fun D act w s m => by
  have h : ∀ d, (Op.equalIn (d + 1) t (.slice (some g) q c) (.slice none 0 0)).run C.P w = .ok false w := fun d => by
    simp [Op.equalIn, underlying, ht]
  have h' : (Op.equalIn Op.maxDepth t (.slice (some g) q c) (.slice none 0 0)).run C.P w = .ok false w := h _
  simp [execOp, ho, s.eval hx, s.eval hy, eqGuard, binOp, Op.equal, h']
end
end Go.Sx
/-
  Old blocks.
-/
namespace Go.Sx
open Go.RowKit
def BlkAt (w : World) (g : Nat) (cs : List Value) (t : TypeId) : Prop := w.heap[g]? = some (blk cs t)
theorem BlkAt.cell {w : World} {g o : Nat} {cs : List Value} {t : TypeId} {v : Value} (h : BlkAt w g cs t) (hv : cs[o]? = some v) : w.cell? ⟨g, o, none⟩ = some v := by
  unfold BlkAt at h
  simp [World.cell?, h, hv]
theorem BlkAt.sh {w0 w : World} {g : Nat} {cs : List Value} {t : TypeId} {H : Items} (h : BlkAt w0 g cs t) (m : SH w0 none' H w) : BlkAt w g cs t := by
  unfold BlkAt at h ⊢
  rw [m.old g (Array.getElem?_eq_some_iff.1 h).1 (fun e => e)]; exact h
theorem BlkAt.of {w0 w : World} {M : Nat → Prop} {H : Items} {g : Nat} {cs : List Value} {t : TypeId} (m : SH w0 M H w) [h : HFind g H (blk cs t)] : BlkAt w g cs t := (m.item _ h.mem).2
theorem CellsAt.blk {C : Cx} {H : Items} {g : Nat} {cs : List Value} {t : TypeId} (h : BlkAt C.w0 g cs t) (hM : ¬ C.M g) : CellsAt C H ⟨g, 0, none⟩ cs := by
  intro i v hi
  rw [add_lit]
  exact CellAt.old (by simpa using h.cell hi) hM
theorem GE_gen {C : Cx} {L : Slots} {D : List Deferred} {k : List Item} {l : Nat} {o : Obj} {H H1 : Items} [ht : HTake l H o H1] (h : ∀ ob, ob = o → GE C L D ((l, ob) :: H1) k) : GE C L D H k :=
  fun a w s m => h o rfl a w s (m.perm ht.perm)
theorem YieldTo.chunkR {P : Program} {w0 : World} {M : Nat → Prop} {l g : Nat} {o : Obj} {args : List Value} {H I J K G G1 G2 G3 : Items} {R : Value → Items → Prop} (h : YieldTo P w0 M l args (I ++ (J ++ ((g, o) :: (K ++ G)))) R) [hc : HChunk I H G1] [hc2 : HChunk J G1 G2] [ht : HTake g G2 o G3] [hc3 : HChunk K G3 G] : YieldTo P w0 M l args H R := fun w m =>
  h w (m.perm (hc.perm.trans ((hc2.perm.trans ((ht.perm.trans (hc3.perm.cons _)).append_left J)).append_left I)))
end Go.Sx
/-
  Structs of two numbers, compared.
-/
namespace Go.Sx
open Go.RowKit
theorem run_part {P : Program} {t : TypeId} {cs : Array Value} {off : Nat} {v : Value} {w : World} {k : IntKind} (ht : P.underlying t = some (.int k)) (hv : cs[off]? = some v) : (part t cs off).run P w = .ok v w := by
  simp [part, isAgg, underlying, ht, hv]
theorem equal_int {P : Program} {t : TypeId} {k k' : IntKind} {a b : Int} {w : World} (d : Nat) (ht : P.underlying t = some (.int k')) : (Op.equalIn (d + 1) t (.int k a) (.int k b)).run P w = .ok (a == b) w := by
  simp [Op.equalIn, underlying, ht]
section
variable {C : Cx} {L : Slots} {H : Items} {o : Oper} {t t' : TypeId} {x y : Operand} {f0 f1 : Go.Field} {k k0 k1 : IntKind} {a b c e : Int}
end
end Go.Sx
/-
  Slices of the call's own: their beginnings, their ends cleared.
-/
namespace Go.Sx
open Go.RowKit
theorem CellAt.rdH {α : Type} [Inhabited α] {C : Cx} {H : Items} {sz k j : Nat} {enc : α → List Value} {A : Option Addr} {l : List α} {u : Value} (h : ∀ w, SH C.w0 C.M H w → RdL w sz enc A l) (hk : k < l.length) (hv : (enc (l.getD k default))[j]? = some u) : CellAt C H ((ad A).add (k * sz + j)) u :=
  fun w m => (h w m).cell k _ (getD_of default hk) j u hv
theorem CellAt.rdH0 {α : Type} [Inhabited α] {C : Cx} {H : Items} {sz k : Nat} {enc : α → List Value} {A : Option Addr} {l : List α} {u : Value} (h : ∀ w, SH C.w0 C.M H w → RdL w sz enc A l) (hk : k < l.length) (hv : (enc (l.getD k default))[0]? = some u) : CellAt C H ((ad A).add (k * sz)) u :=
  CellAt.rdH (j := 0) h hk hv
theorem CellsAt.ownE {α : Type} [Inhabited α] {C : Cx} {H H1 I : Items} {sz n c k : Nat} {e : TypeId} {enc : α → List Value} {A : Option Addr} {l : List α} {vs : List Value} (h : Own sz e enc l (.slice A n c) I) [HChunk I H H1] (hs : ∀ x, (enc x).length = sz) (hk : k < l.length) (he : enc (l.getD k default) = vs) : CellsAt C H ((ad A).add (k * sz)) vs := by
  rw [← he]; exact CellsAt.own h hs hk
section
variable {α : Type} {sz : Nat} {e : TypeId} {enc : α → List Value} {l m : List α} {H H1 I : Items}
theorem Own.pre {A : Option Addr} {c : Nat} (h : Own sz e enc (l ++ m) (.slice A (l ++ m).length c) I) (hs : ∀ x, (enc x).length = sz) (hne : 0 < (l ++ m).length) : Own sz e enc l (.slice A l.length c) I := by
  rcases h with ⟨_, h, _⟩ | ⟨g, c', rest, h, hI, hr, hle, hcm⟩
  · rw [h] at hne; simp at hne
  · injection h with h1 h2 h3
    subst h1 h3
    simp only [List.length_append] at hr hle
    refine .inr ⟨g, c, m.flatMap enc ++ rest, rfl, by rw [hI, List.flatMap_append, List.append_assoc], ?_, by omega, hcm⟩
    rw [List.length_append, hr, flat_len hs, ← Nat.add_mul]; congr 1; omega
theorem Own.clrFrom {A : Option Addr} {nn c k : Nat} {x : α} {u : Value} {w0 w : World} {M : Nat → Prop} {P : Program} (hM : SH w0 M H w) [hc : HChunk I H H1] (hO : Own 1 e enc l (.slice A nn c) I) (henc : ∀ x, (enc x).length = 1) (h1 : u.oneCell' = true) (hx : enc x = [u]) (hk : k < l.length) :
    ∃ g I' w', A = some ⟨g, 0, none⟩ ∧ nn = l.length ∧ l.length ≤ c ∧ (storeCells ⟨g, k, none⟩ (List.replicate (l.length - k) u)).run P w = .ok () w' ∧ Own 1 e enc (l.take k ++ List.replicate (l.length - k) x) (.slice A nn c) I' ∧ SH w0 M (I' ++ H1) w' := by
  have m0 := hM.perm hc.perm
  rcases hO with ⟨_, hl, _⟩ | ⟨g, c', rest, hv, hI, hr, hle, hcm⟩
  · subst hl; simp at hk
  · injection hv with hv1 hv2 hv3
    subst hv1 hv2 hv3
    subst hI
    have hfl := flat_len henc l
    obtain ⟨w', hrun, m'⟩ := run_storeCells (P := P) (List.replicate (l.length - k) u) k 0 (l.flatMap enc ++ rest) w m0 (fun v hv => by rw [(List.mem_replicate.1 hv).2]; exact h1) (by simp only [List.length_append, List.length_replicate]; omega)
    have hlen : (l.take k ++ List.replicate (l.length - k) x).length = l.length := by simp only [List.length_append, List.length_take, List.length_replicate]; omega
    refine ⟨g, [(g, blk ((l.take k ++ List.replicate (l.length - k) x).flatMap enc ++ rest) e)], w', rfl, rfl, hle, hrun, .inr ⟨g, c, rest, by rw [hlen], rfl, by rw [hlen]; exact hr, by rw [hlen]; exact hle, hcm⟩, ?_⟩
    have e2 : (l.flatMap enc ++ rest).take (k + 0) ++ List.replicate (l.length - k) u ++ (l.flatMap enc ++ rest).drop (k + 0 + (List.replicate (l.length - k) u).length) = (l.take k ++ List.replicate (l.length - k) x).flatMap enc ++ rest := by
      have e1 : l.flatMap enc = (l.take k).flatMap enc ++ (l.drop k).flatMap enc := by rw [← List.flatMap_append, List.take_append_drop]
      have e4 : ((l.take k).flatMap enc).length = k := by rw [flat_len henc, List.length_take]; omega
      have e3 : ∀ n, (List.replicate n x).flatMap enc = List.replicate n u := by
        intro n
        rw [List.flatMap_replicate, hx]
        induction n with
        | zero => rfl
        | succ n ih => rw [List.replicate_succ, List.replicate_succ, List.flatten_cons, ih]; rfl
      rw [List.flatMap_append, e3, List.length_replicate, Nat.add_zero, List.take_append_of_le_length (by omega), List.drop_append, List.drop_of_length_le (by omega), show k + (l.length - k) - (l.flatMap enc).length = 0 by omega]
      rw [e1, List.take_left' e4]; simp
    rw [e2] at m'
    exact m'
variable {C : Cx} {L : Slots} {D : List Deferred} {k : List Item} {ops : Array Oper} {i : Nat} {o : Oper} {n : Tr} {pend : List Nat}
theorem GT_clearFrom {t q c nn : Nat} {x : Operand} {A : Option Addr} {u : Value} {xx : α} [hc : HChunk I H H1] (ho : opAt ops i = some o) (hop : o.op = .call { callee := .builtin .clear, args := #[x], argTypes := #[t] }) (hg : o.guard = none) (hd : o.dst = none)
    (hx : ev L x = some (.slice (slA c q 1 A) (nn - q) (c - q))) (hO : Own 1 e enc l (.slice A nn c) I) (ht : C.P.underlying t = some (.slice e)) (hz : zcOf C.P e = some [u]) (henc : ∀ x, (enc x).length = 1) (h1 : u.oneCell' = true) (hxx : enc xx = [u]) (hq : q < l.length)
    (hp : ∀ I', Own 1 e enc (l.take q ++ List.replicate (l.length - q) xx) (.slice A nn c) I' → GR C ops L D (I' ++ H1) pend) (h : ∀ I', Own 1 e enc (l.take q ++ List.replicate (l.length - q) xx) (.slice A nn c) I' → GT C ops k L D (I' ++ H1) n) : GT C ops k L D H (.ld i pend n) := by
  refine GT_ld ho hg (by simp [Oper.isDefer, hop]) fun a w st mm => ?_
  obtain ⟨g, I', w', rfl, rfl, hle, hrun, hO', m'⟩ := Own.clrFrom (P := C.P) (x := xx) mm hO henc h1 hxx hq
  obtain ⟨v, hv, hvc⟩ := Option.map_eq_some_iff.1 hz
  obtain ⟨inf, hi, hz0⟩ := Option.bind_eq_some_iff.1 hv
  have hcells : v.cells = #[u] := Array.toList_inj.1 hvc
  obtain ⟨q', hq'⟩ : ∃ q', l.length - q = q' + 1 := ⟨l.length - q - 1, by omega⟩
  have e0 : slA c q 1 (some ⟨g, 0, none⟩) = some ⟨g, q, none⟩ := by unfold slA; rw [if_neg (by omega)]; simp [add_lit]
  rw [e0, hq'] at hx
  rw [hq'] at hrun
  have e1 : (execOp a.eval o).run C.P w = .ok (.value (.tuple #[])) w' := by
    simp [execOp, hop, resolve, invoke, builtin, st.eval hx, Builtin.clear_, underlying, ht, zeroValue, typeInfo, hi, hz0, hcells, zeroCells_one, hrun]
  rw [e1]
  exact ⟨L, _, by rw [hd]; exact st, m', hp I' hO', h I' hO'⟩
end
end Go.Sx
