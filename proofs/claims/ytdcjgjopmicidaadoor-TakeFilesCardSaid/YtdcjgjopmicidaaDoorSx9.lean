/-
  From a walk that comes to true to the row's statement: what comes in is read, what stands reads as it did.
-/
import Derived.Test.YtdcjgjopmicidaaDoorSx8
import Derived.ProofKit
import Derived.OpenShut
import Derived.Carry
import Derived.Deep.Slices
namespace Go.Sx
open Go.RowKit Go.ChangeShapes Go.WideShapes

/-! ### what comes in -/
/-- The cells cs, at type t, can be read in W. -/
def Dat (P : Program) (W : World) (t : TypeId) (cs : List Value) : Prop :=
  ∃ (H : Type) (enc : TypeId × Value → H) (n : Nat) (x : DataW H × List MemPlace), DataW.trod enc P W 0 (fun _ => true) true n t cs = some x
theorem Dat.of {H : Type} {enc : TypeId × Value → H} {P : Program} {W : World} {t : TypeId} {v : Value} {d : DataW H} {p : List MemPlace} (h : DataW.Trod enc P W 0 (fun _ => true) true t v d p) : Dat P W t v.cells.toList := by
  obtain ⟨n, hn⟩ := h
  exact ⟨H, enc, n, _, hn⟩
section
variable {P : Program} {W : World} {t e : TypeId} {cs : List Value}
theorem Dat.int {k : IntKind} (ht : P.underlying t = some (.int k)) (h : Dat P W t cs) : ∃ n, cs = [.int k n] ∧ (Lit.int k n).wf = true := by
  obtain ⟨H, enc, n, x, h⟩ := h
  obtain ⟨z, h1, _, h2⟩ := DataW.trod_int ht h
  exact ⟨z, h1, h2⟩
theorem Dat.bool (ht : P.underlying t = some .bool) (h : Dat P W t cs) : ∃ b, cs = [.bool b] := by
  obtain ⟨H, enc, n, x, h⟩ := h
  obtain ⟨z, h1, _⟩ := DataW.trod_bool ht h
  exact ⟨z, h1⟩
theorem Dat.string (ht : P.underlying t = some .string) (h : Dat P W t cs) : ∃ s : ByteArray, cs = [.string s] ∧ s.size ≤ maxLen := by
  obtain ⟨H, enc, n, x, h⟩ := h
  obtain ⟨z, h1, _, h2⟩ := DataW.trod_string ht h
  exact ⟨z, h1, h2⟩
theorem Dat.struct {fs : Array Field} (ht : P.underlying t = some (.struct fs)) (h : Dat P W t cs) : cs.length = P.cellsOf t ∧ ∀ (j : Nat) (f : Field), fs[j]? = some f → Dat P W f.type ((cs.drop f.offset).take (P.cellsOf f.type)) := by
  obtain ⟨H, enc, n, x, h⟩ := h
  obtain ⟨ys, m, _, _, hl, hyl, hf⟩ := DataW.trod_struct ht h
  refine ⟨hl, fun j f hj => ?_⟩
  have h1 := hf j f hj
  have hlt : j < ys.length := by rw [hyl]; exact (Array.getElem?_eq_some_iff.1 hj).1
  rw [List.getElem?_eq_getElem hlt] at h1
  exact ⟨H, enc, _, _, h1⟩
theorem Dat.array {n : Nat} (ht : P.underlying t = some (.array n e)) (h : Dat P W t cs) : cs.length = P.cellsOf t ∧ ∀ i, i < n → Dat P W e ((cs.drop (i * P.cellsOf e)).take (P.cellsOf e)) := by
  obtain ⟨H, enc, m, x, h⟩ := h
  obtain ⟨ys, m', _, _, hl, hyl, hf⟩ := DataW.trod_array ht h
  refine ⟨hl, fun i hi => ?_⟩
  have h1 := hf i hi
  rw [List.getElem?_eq_getElem (by omega)] at h1
  exact ⟨H, enc, _, _, h1⟩
theorem choose_list {α : Type} (p : Nat → α → Prop) : ∀ n, (∀ i, i < n → ∃ x, p i x) → ∃ l : List α, l.length = n ∧ ∀ i x, l[i]? = some x → p i x
  | 0, _ => ⟨[], rfl, fun i x h => by simp at h⟩
  | n + 1, h => by
    obtain ⟨l, hl, hp⟩ := choose_list p n (fun i hi => h i (by omega))
    obtain ⟨x, hx⟩ := h n (by omega)
    refine ⟨l ++ [x], by simp [hl], fun i y hy => ?_⟩
    by_cases hi : i < l.length
    · rw [List.getElem?_append_left hi] at hy; exact hp i y hy
    · rw [List.getElem?_append_right (by omega)] at hy
      have : i - l.length = 0 := by
        rcases Nat.eq_zero_or_pos (i - l.length) with h0 | h0
        · exact h0
        · rw [List.getElem?_eq_none (by simp; omega)] at hy; cases hy
      rw [this] at hy
      simp only [List.getElem?_cons_zero, Option.some.injEq] at hy
      subst hy
      rw [show i = n by omega]; exact hx
/-- A slice that came in, by what its elements read as. -/
theorem Dat.slice {α : Type} {enc : α → List Value} {G : α → Prop} (sz : Nat) (ht : P.underlying t = some (.slice e)) (hsz : P.cellsOf e = sz) (hdec : ∀ cs, Dat P W e cs → ∃ x, G x ∧ cs = enc x) (henc : ∀ x, (enc x).length = sz) (h : Dat P W t cs) :
    ∃ A l c, cs = [.slice A (List.length l) c] ∧ RdL W sz enc A l ∧ (∀ x ∈ l, G x) ∧ l.length ≤ c ∧ c ≤ maxLen := by
  subst hsz
  obtain ⟨H, enc', n, x, h⟩ := h
  rcases Go.Deep.open_slice ht h with ⟨rfl, _⟩ | ⟨a, len, cap, m, n', D, Pl, rfl, _, hl, hm, hmm, _, hi⟩
  · exact ⟨none, [], 0, rfl, RdL.nil, by simp, by simp, by simp⟩
  · obtain ⟨l, hll, hlp⟩ := choose_list (fun i x => G x ∧ W.cells? 0 (a.add (i * P.cellsOf e)) (P.cellsOf e) = some (enc x)) len (fun i hil => by
      have hmlen : len ≤ m := by rw [hmm]; simp; exact hl
      obtain ⟨cs', hc, ht'⟩ := hi i (by omega)
      obtain ⟨x, hG, rfl⟩ := hdec cs' ⟨H, enc', _, _, ht'⟩
      exact ⟨x, hG, hc⟩)
    refine ⟨some a, l, cap, by rw [hll], ⟨fun _ => rfl, fun k x hk j v hv => ?_⟩, fun x hx => ?_, by omega, hm⟩
    · obtain ⟨_, hc⟩ := hlp k x hk
      obtain ⟨_, hcl, hat⟩ := World.cells?_some hc
      have hj : j < P.cellsOf e := by have := (List.getElem?_eq_some_iff.1 hv).1; rw [henc] at this; exact this
      have := hat j hj
      rw [hv] at this
      rw [← this]
      show W.cell? (a.add (k * P.cellsOf e + j)) = _
      rw [Go.Deep.add_add]
    · obtain ⟨i, hi2⟩ := List.getElem?_of_mem hx
      exact (hlp i x hi2).1
theorem Dat.ints {k : IntKind} (ht : P.underlying t = some (.slice e)) (he : P.underlying e = some (.int k)) (hsz : P.cellsOf e = 1) (h : Dat P W t cs) :
    ∃ A l c, cs = [.slice A (List.length l) c] ∧ RdL W 1 (fun x : Int => [Value.int k x]) A l ∧ (∀ x ∈ l, (Lit.int k x).wf = true) ∧ l.length ≤ c ∧ c ≤ maxLen :=
  Dat.slice 1 ht hsz (fun cs h => by obtain ⟨n, h1, h2⟩ := h.int he; exact ⟨n, h2, h1⟩) (fun _ => rfl) h
end

/-! structs and arrays of integers -/
def isInt (P : Program) (t : TypeId) (k : IntKind) : Bool := match P.underlying t with | some (.int k') => decide (k' = k) | _ => false
theorem isInt_of {P : Program} {t : TypeId} {k : IntKind} (h : isInt P t k = true) : P.underlying t = some (.int k) := by
  unfold isInt at h
  split at h
  · rename_i k' hu; rw [hu]; simp at h; rw [h]
  · cases h
def intFields (P : Program) (fs : Array Field) (k : IntKind) : Bool := (List.range fs.size).all fun j => match fs[j]? with | some f => decide (f.offset = j) && decide (P.cellsOf f.type = 1) && isInt P f.type k | none => false
theorem ints_of {k : IntKind} : ∀ (cs : List Value), (∀ j, j < cs.length → ∃ z, (cs.drop j).take 1 = [.int k z] ∧ (Lit.int k z).wf = true) → ∃ zs : List Int, cs = zs.map (fun z => Value.int k z) ∧ ∀ z ∈ zs, (Lit.int k z).wf = true
  | [], _ => ⟨[], rfl, by simp⟩
  | c :: cs, h => by
    obtain ⟨zs, h1, h2⟩ := ints_of cs (fun j hj => by simpa using h (j + 1) (by simp; omega))
    obtain ⟨z, h3, h4⟩ := h 0 (by simp)
    simp at h3
    refine ⟨z :: zs, by rw [h1, h3]; rfl, fun y hy => ?_⟩
    rcases List.mem_cons.1 hy with rfl | hy
    · exact h4
    · exact h2 y hy
theorem Dat.intStruct {P : Program} {W : World} {t : TypeId} {cs : List Value} {fs : Array Field} {k : IntKind} (ht : P.underlying t = some (.struct fs)) (hf : intFields P fs k = true) (hC : P.cellsOf t = fs.size) (h : Dat P W t cs) : ∃ zs : List Int, zs.length = fs.size ∧ cs = zs.map (fun z => Value.int k z) ∧ ∀ z ∈ zs, (Lit.int k z).wf = true := by
  obtain ⟨hl, hg⟩ := h.struct ht
  obtain ⟨zs, h1, h2⟩ := ints_of (k := k) cs (fun j hj => by
    have h3 := List.all_eq_true.1 hf j (by rw [List.mem_range]; omega)
    cases hfj : fs[j]? with
    | none => rw [hfj] at h3; cases h3
    | some f =>
      rw [hfj] at h3
      simp only [Bool.and_eq_true, decide_eq_true_eq] at h3
      have h4 := hg j f hfj
      rw [h3.1.1, h3.1.2] at h4
      exact h4.int (isInt_of h3.2))
  exact ⟨zs, by rw [← hC, ← hl, h1]; simp, h1, h2⟩
theorem Dat.intArray {P : Program} {W : World} {t e : TypeId} {cs : List Value} {n : Nat} {k : IntKind} (ht : P.underlying t = some (.array n e)) (hk : P.underlying e = some (.int k)) (he : P.cellsOf e = 1) (hC : P.cellsOf t = n) (h : Dat P W t cs) : ∃ zs : List Int, zs.length = n ∧ cs = zs.map (fun z => Value.int k z) ∧ ∀ z ∈ zs, (Lit.int k z).wf = true := by
  obtain ⟨hl, hg⟩ := h.array ht
  obtain ⟨zs, h1, h2⟩ := ints_of (k := k) cs (fun j hj => by
    have h4 := hg j (by omega)
    rw [he, Nat.mul_one] at h4
    exact h4.int hk)
  exact ⟨zs, by rw [← hC, ← hl, h1]; simp, h1, h2⟩

/-! ### what stands reads as it did -/
theorem trodAll_stays {H : Type} {enc : TypeId × Value → H} {P : Program} (hl : laidOutB P = true) {W W' : World} (hb : Below W.heap.size W W') {sp : Nat → Bool} : ∀ {ts : List TypeId} {vs : List Value} {ds : List (DataW H)} {ps : List MemPlace},
    (ts.all fun t => P.readableRec t && decide (t < P.types.size)) = true → DataW.TrodAll enc P W 0 (fun _ => true) true ts vs ds ps → (∀ p ∈ ps, p.block < W.heap.size ∧ sp p.block = true) → DataW.TrodAll enc P W' 0 sp true ts vs ds ps
  | [], vs, ds, ps, _, h, _ => by
    obtain ⟨rfl, rfl, rfl⟩ := trodAll_nil h
    exact trodAll_mk0
  | t :: ts, vs, ds, ps, hr, h, hp => by
    obtain ⟨v, vs', d, ds', p, q, rfl, rfl, rfl, h1, h2⟩ := trodAll_cons h
    simp only [List.all_cons, Bool.and_eq_true, decide_eq_true_eq] at hr
    exact trodAll_cons_mk (WideElems.Trod_stays hl hr.1.1 hr.1.2 h1 (fun x hx => hb.same (hp x (List.mem_append_left _ hx)).1) (fun x hx => (hp x (List.mem_append_left _ hx)).2))
      (trodAll_stays hl hb (by simpa using hr.2) h2 (fun x hx => hp x (List.mem_append_right _ hx)))

/-- A call that comes to true, and leaves everything below the heap's old size as it was: the row's statement. -/
theorem post_true {H : Type} {enc : TypeId × Value → H} {P : Program} {f : Func} {s : ChangeSpec} {fresh handsOn again : Bool} {W W' : World} {args : Array Value} {ds gs : List (DataW H)} {before : List MemPlace} {tb : TypeId}
    (hW : DataW.Whole enc P f.params.toList s.vars false W args.toList ds gs before) (hv : s.vars = []) (hb : Below W.heap.size W W') (hl : laidOutB P = true) (hr : (f.params.toList.all fun t => P.readableRec t && decide (t < P.types.size)) = true)
    (hres : f.resultTypes = #[tb]) (htb : P.underlying tb = some .bool) (h1 : (s.fn H (ds ++ gs)).results = [.lit (.bool true)]) (h2 : (s.fn H (ds ++ gs)).args = ds) (h3 : (s.fn H (ds ++ gs)).vars = []) :
    s.post enc P f false fresh handsOn again W args (.bool true) W' := by
  have hlt := fun p hp => hW.lt (p := p) hp
  have hW' := hW
  obtain ⟨p, q, hA, hV, rfl, hz, hn⟩ := hW'
  rw [hv] at hV
  obtain ⟨rfl, rfl⟩ := trodVars_none hV
  simp only [List.append_nil] at hlt hz hn hW h1 h2 h3 ⊢
  have hA' : ∀ sp : Nat → Bool, (∀ x ∈ p, sp x.block = true) → DataW.TrodAll enc P W' 0 sp true f.params.toList args.toList ds p := fun sp hs => trodAll_stays hl hb hr hA (fun x hx => ⟨hlt x hx, hs x hx⟩)
  have hR : ∀ (b : Nat) (sp : Nat → Bool) (hd : Bool), DataW.TrodAll enc P W' b sp hd f.resultTypes.toList ((Value.bool true).resultList f.resultTypes.size) [.lit (.bool true)] [] := fun b sp hd => by
    rw [hres]; exact trodAll_mk1 (shut_bool htb _)
  refine ⟨ds, [], p, [], p, [], hW, ?_, ?_, ?_, ?_, fun _ => ⟨?_, [.lit (.bool true)] ++ ds, [], [] ++ p, ⟨[] ++ p, [], trodAll_append (hA' _ (fun _ _ => rfl)) (hR 0 (fun _ => true) true), ?_, by simp, ?_, fun h => by cases h⟩, ?_⟩⟩
  · simp only [List.append_nil]; rw [h1]; exact hR _ _ _
  · simp only [List.append_nil]; rw [h2]; exact hA' _ (fun x hx => by simpa using hlt x hx)
  · simp only [List.append_nil]; rw [h3, hv]; rfl
  · exact hb.frame _
  · exact ok_one hres rfl (okWide_bool_mk htb _)
  · rw [hv]; rfl
  · intro b off hp
    have h4 : (MemPlace.cell b off).block < W.heap.size := hlt _ (by simpa using hp)
    have h5 := hz b off (by simpa using hp)
    unfold World.frozen? at h5 ⊢
    rw [show W'.heap[(⟨b, off, none⟩ : Addr).block]? = W.heap[(⟨b, off, none⟩ : Addr).block]? from hb.block b h4]; exact h5
  · intro x hx _; simpa using hx
end Go.Sx
