/-
  Slices of the call's own: they are appended to, and their elements are stored.
-/
import Derived.Test.YtdcjgjopmicidaaDoorSx6
import Derived.Maps.AppendAt
namespace Go.Sx
open Go.RowKit

/-- The slice v, whose block is in I (nil: none), has the elements l. -/
def Own {α : Type} (sz : Nat) (e : TypeId) (enc : α → List Value) (l : List α) (v : Value) (I : Items) : Prop :=
  (v = .slice none 0 0 ∧ l = [] ∧ I = []) ∨
  ∃ g c rest, v = .slice (some ⟨g, 0, none⟩) l.length c ∧ I = [(g, blk (l.flatMap enc ++ rest) e)] ∧ rest.length = (c - l.length) * sz ∧ l.length ≤ c ∧ c ≤ maxLen

/-- The blocks I are among those of H; H' are the others. -/
class HChunk (I H : Items) (H' : outParam Items) : Prop where
  perm : List.Perm H (I ++ H')
instance (priority := high) HChunk.nil {H : Items} : HChunk [] H H := ⟨.refl _⟩
instance (priority := high) HChunk.head {I H : Items} : HChunk I (I ++ H) H := ⟨.refl _⟩
instance (priority := high) HChunk.self {I : Items} : HChunk I I [] := ⟨by simp⟩
instance HChunk.one {g : Nat} {o : Obj} {H H' : Items} [h : HTake g H o H'] : HChunk [(g, o)] H H' := ⟨h.perm⟩
instance HChunk.tail {I H H' : Items} {p : Nat × Obj} [h : HChunk I H H'] : HChunk I (p :: H) (p :: H') := ⟨(h.perm.cons _).trans (List.perm_middle.symm)⟩
instance HChunk.right {I J H H' : Items} [h : HChunk I H H'] : HChunk I (J ++ H) (J ++ H') :=
  ⟨(h.perm.append_left J).trans (by rw [← List.append_assoc, ← List.append_assoc]; exact List.perm_append_comm.append_right _)⟩
instance HChunk.left {I J J' H : Items} [h : HChunk I J J'] : HChunk I (J ++ H) (J' ++ H) := ⟨by rw [← List.append_assoc]; exact h.perm.append_right _⟩

theorem HS.chunk {C : Cx} {H H1 H' I : Items} [h : HChunk I H H1] (h' : HS C H1 H') : HS C H (I ++ H') := by
  obtain ⟨R, hR⟩ := h'
  exact ⟨R, h.perm.trans (by rw [List.append_assoc]; exact hR.append_left I)⟩
theorem SH.chunk {w0 : World} {M : Nat → Prop} {H H1 I : Items} {w : World} (m : SH w0 M H w) [h : HChunk I H H1] : SH w0 M I w := by
  have := m.perm h.perm
  exact this.drop (fun p hp => List.mem_append_left _ hp) (by have := this.nd; rw [List.map_append] at this; exact (List.nodup_append.1 this).1)

section
variable {α : Type} {sz e : Nat} {enc : α → List Value} {l : List α} {v : Value} {I : Items}
theorem Own.nil : Own (α := α) sz e enc [] (.slice none 0 0) [] := .inl ⟨rfl, rfl, rfl⟩
theorem Own.form (h : Own sz e enc l v I) : ∃ A c, v = .slice A l.length c ∧ l.length ≤ c := by
  rcases h with ⟨rfl, rfl, rfl⟩ | ⟨g, c, rest, rfl, _, _, hc, _⟩
  · exact ⟨none, 0, rfl, Nat.le_refl _⟩
  · exact ⟨_, _, rfl, hc⟩
theorem Own.isSome {A : Option Addr} {n c : Nat} (h : Own sz e enc l (.slice A n c) I) {k : Nat} (hk : k < l.length) : A.isSome = true := by
  rcases h with ⟨_, rfl, _⟩ | ⟨g, c, rest, he, _⟩
  · simp at hk
  · cases he; rfl
theorem Own.rd {A : Option Addr} {n c : Nat} {w0 w : World} {M : Nat → Prop} (h : Own sz e enc l (.slice A n c) I) (hs : ∀ x, (enc x).length = sz) (m : SH w0 M I w) : RdL w sz enc A l := by
  rcases h with ⟨he, rfl, rfl⟩ | ⟨g, c, rest, he, rfl, _⟩
  · exact RdL.nil
  · cases he
    exact RdL.own m hs
theorem Own.rdH {A : Option Addr} {n c : Nat} {w0 w : World} {M : Nat → Prop} {H H1 : Items} (h : Own sz e enc l (.slice A n c) I) (hs : ∀ x, (enc x).length = sz) (m : SH w0 M H w) [HChunk I H H1] : RdL w sz enc A l := h.rd hs (m.chunk (I := I) (H1 := H1))

theorem CellAt.own [Inhabited α] {C : Cx} {H H1 : Items} {A : Option Addr} {n c k j : Nat} {u : Value} (h : Own sz e enc l (.slice A n c) I) [HChunk I H H1] (hs : ∀ x, (enc x).length = sz) (hk : k < l.length) (hv : (enc (l.getD k default))[j]? = some u) : CellAt C H ((ad A).add (k * sz + j)) u :=
  fun _ m => (h.rdH hs m).cell k _ (getD_of default hk) j u hv
theorem CellAt.own0 [Inhabited α] {C : Cx} {H H1 : Items} {A : Option Addr} {n c k : Nat} {u : Value} (h : Own sz e enc l (.slice A n c) I) [HChunk I H H1] (hs : ∀ x, (enc x).length = sz) (hk : k < l.length) (hv : (enc (l.getD k default))[0]? = some u) : CellAt C H ((ad A).add (k * sz)) u :=
  CellAt.own (j := 0) h hs hk hv
theorem CellsAt.own [Inhabited α] {C : Cx} {H H1 : Items} {A : Option Addr} {n c k : Nat} (h : Own sz e enc l (.slice A n c) I) [HChunk I H H1] (hs : ∀ x, (enc x).length = sz) (hk : k < l.length) : CellsAt C H ((ad A).add (k * sz)) (enc (l.getD k default)) := by
  intro i u hi
  rw [add_add']
  exact CellAt.own h hs hk hi
end

section acts
variable {C : Cx} {L : Slots} {D : List Deferred} {H : Items} {k : List Item} {ops : Array Oper} {i d : Nat} {o : Oper} {n : Tr} {pend : List Nat}
variable {α : Type} {sz e by_ : Nat} {enc : α → List Value} {l m : List α} {v : Value} {I H1 : Items}

theorem flat_len (hs : ∀ x, (enc x).length = sz) (l : List α) : (l.flatMap enc).length = l.length * sz := by
  induction l with
  | nil => simp
  | cons x l ih => simp [hs, ih, Nat.add_mul, Nat.add_comm]

theorem run_append_of_nil' {P : Program} {w : World} {t ty : Nat} {inf : TypeInfo} (ht : P.underlying t = some (.slice e)) (hi : P.info? e = some inf) {A : Option Addr} {n c q : Nat} (hn : n ≤ c) : (Builtin.append_ #[t, t] ty #[.slice A n c, .slice none 0 q]).run P w = .ok (.slice A n c) w := by
  have hle : n + 0 ≤ c := hn
  simp [Builtin.append_, underlying, ht, sizeOf, typeInfo, hi, Builtin.lenOf, Builtin.firstCells, hn]
  cases A <;> simp [storeCells]

/-- append(s, x...), s of the call's own. -/
theorem run_append_own' {P : Program} {w0 w : World} {M : Nat → Prop} {t ty : Nat} {z : List Value} {A : Option Addr} {c : Nat} (hM : SH w0 M H w) [hc : HChunk I H H1] (hO : Own sz e enc l v I) (hm : RdL w sz enc A m)
    (ht : P.underlying t = some (.slice e)) (hz : zcOf P e = some z) (hs : szOf P e = some sz) (hzl : z.length = sz) (hby : byOf P e = some by_) (h0 : 0 < sz) (hb : (l.length + m.length) * by_ ≤ 140737488355328 ∧ l.length + m.length ≤ 140737488355328)
    (henc : ∀ x, (enc x).length = sz) (h1 : ∀ x, ∀ u ∈ enc x, u.oneCell' = true) :
    ∃ v' I' w', (Builtin.append_ #[t, t] ty #[v, .slice A m.length c]).run P w = .ok v' w' ∧ Own sz e enc (l ++ m) v' I' ∧ SH w0 M (I' ++ H1) w' := by
  obtain ⟨z0, hz0, rfl⟩ := Option.map_eq_some_iff.1 hz
  obtain ⟨inf, hi, hzz⟩ := Option.bind_eq_some_iff.1 hz0
  obtain ⟨inf', hi', hsz⟩ := Option.map_eq_some_iff.1 hs
  obtain ⟨inf'', hi'', hbb⟩ := Option.map_eq_some_iff.1 hby
  rw [hi] at hi' hi''; cases hi'; cases hi''
  have m0 := hM.perm hc.perm
  by_cases hm0 : m = []
  · subst hm0
    obtain ⟨A', c', hv, hle⟩ := hO.form
    cases A with
    | none =>
      refine ⟨v, I, w, ?_, by simpa using hO, m0⟩
      rw [hv]
      exact run_append_of_nil' ht hi hle
    | some a =>
      refine ⟨v, I, w, ?_, by simpa using hO, m0⟩
      rw [hv]
      have : l.length + 0 ≤ c' := hle
      simp [Builtin.append_, underlying, ht, sizeOf, typeInfo, hi, Builtin.lenOf, Builtin.firstCells, hle, loadCells, loadCellsFrom]
      cases A' <;> simp [storeCells]
  · obtain ⟨a, rfl⟩ := Option.isSome_iff_exists.1 (hm.there hm0)
    have hfl := flat_len henc l
    have hfm := flat_len henc m
    have hown : w.ownsRow 0 e sz v l.length (l.flatMap enc) := by
      refine ⟨hfl, ?_⟩
      rcases hO with ⟨hv, hl, _⟩ | ⟨g, c', rest, hv, hI, hr, hle, hcm⟩
      · subst hl; exact .inl ⟨hv, rfl⟩
      · subst hI
        have hit := (m0.item (g, blk (l.flatMap enc ++ rest) e) (by simp)).2
        refine .inr ⟨g, c', (l.flatMap enc ++ rest).toArray, hv, Nat.zero_le _, hit, hle, hcm, ?_, ?_⟩
        · simp only [List.size_toArray, List.length_append, hfl, hr]
          rw [← Nat.add_mul]; congr 1; omega
        · rw [List.toList_toArray, ← hfl]; simp
    have hnews : ∀ j u, (m.flatMap enc)[j]? = some u → w.cell? (a.add j) = some u := by
      intro j u hj
      have hlt := (List.getElem?_eq_some_iff.1 hj).1
      rw [hfm] at hlt
      have hq : j / sz < m.length := Nat.div_lt_of_lt_mul (by rw [Nat.mul_comm]; exact hlt)
      have hr : j % sz < sz := Nat.mod_lt _ h0
      have hj' : j = (j / sz) * sz + j % sz := by have := Nat.div_add_mod j sz; rw [Nat.mul_comm] at this; exact this.symm
      have hx : m[j / sz]? = some m[j / sz] := List.getElem?_eq_getElem hq
      have hu : (enc m[j / sz])[j % sz]? = some ((enc m[j / sz])[j % sz]'(by rw [henc]; exact hr)) := List.getElem?_eq_getElem _
      have hfg := flat_get henc m _ _ hx _ _ hu
      rw [← hj', hj] at hfg
      have := hm.cell _ _ hx _ _ hu
      rw [← hj'] at this
      simp only [ad, Option.getD_some] at this
      rw [this, ← hfg]
    obtain ⟨v', w', hrun, hrow, hgr, _, hat⟩ := run_append_own_at (P := P) w 0 t ty e inf z0 sz by_ ht hi hzz hsz hbb (by simpa using hzl) h0 v l.length (l.flatMap enc) hown a m.length c (m.flatMap enc) hfm hnews
      (fun u hu => by obtain ⟨x, _, hx⟩ := List.mem_flatMap.1 hu; exact h1 x u hx) (by simp only [maxLen]; omega) hb.1 (Nat.zero_le _)
    -- the others are as they were
    have hoth : ∀ p ∈ H1, some p.1 ≠ v.ownBlock := by
      intro p hp he
      rcases hO with ⟨hv, _, _⟩ | ⟨g, c', rest, hv, hI, _⟩
      · subst hv; simp [Value.ownBlock] at he
      · subst hv; subst hI
        simp only [Value.ownBlock, Option.some.injEq] at he
        have hnd := m0.nd
        simp only [List.cons_append, List.nil_append, List.map_cons, List.nodup_cons] at hnd
        exact hnd.1 (List.mem_map.2 ⟨p, hp, he⟩)
    have hold : ∀ k, k < w0.heap.size → ¬ M k → some k ≠ v.ownBlock := by
      intro k hk hMk he
      rcases hO with ⟨hv, _, _⟩ | ⟨g, c', rest, hv, hI, _⟩
      · subst hv; simp [Value.ownBlock] at he
      · subst hv; subst hI
        simp only [Value.ownBlock, Option.some.injEq] at he
        subst he
        rcases (m0.item (k, blk (l.flatMap enc ++ rest) e) (by simp)).1 with h | h
        · simp only at h; omega
        · exact hMk h
    rcases hrow.2 with ⟨_, hz⟩ | ⟨g, cap, cur, hv', _, hg, hnc, hcm, hcs, hct⟩
    · exfalso
      have : 0 < m.length := List.length_pos_iff.2 hm0
      omega
    refine ⟨v', [(g, blk cur.toList e)], w', hrun, .inr ⟨g, cap, cur.toList.drop ((l.length + m.length) * sz), by rw [hv']; simp, ?_, ?_, by simpa using hnc, hcm⟩, ?_⟩
    · have : (l ++ m).flatMap enc ++ cur.toList.drop ((l.length + m.length) * sz) = cur.toList := by
        rw [List.flatMap_append, ← hct, List.take_append_drop]
      rw [this]
    · rw [List.length_drop, Array.length_toList, hcs, List.length_append, Nat.sub_mul]
    · have hgb : some g = v.ownBlock ∨ g = w.heap.size := by
        rw [hv'] at hat
        simp only [Value.ownBlock, Option.some.injEq] at hat
        exact hat
      refine ⟨hgr.os.trans hM.os, hgr.tape.trans hM.tape, hgr.output.trans hM.output, Nat.le_trans hM.size hgr.size, fun k hk hMk => ?_, ?_, ?_⟩
      · rw [hgr.block k (Nat.lt_of_lt_of_le hk hM.size) (hold k hk hMk)]
        exact hM.old k hk hMk
      · intro p hp
        rcases List.mem_cons.1 hp with rfl | hp
        · refine ⟨?_, by simpa using hg⟩
          rcases hgb with hgb | hgb
          · rcases hO with ⟨hv, _, _⟩ | ⟨g2, c', rest, hv, hI, _⟩
            · subst hv; simp [Value.ownBlock] at hgb
            · subst hv; subst hI
              simp only [Value.ownBlock, Option.some.injEq] at hgb
              subst hgb
              exact (m0.item (g, blk (l.flatMap enc ++ rest) e) (by simp)).1
          · exact .inl (by simp only [hgb]; exact hM.size)
        · obtain ⟨h1, h2⟩ := m0.item p (List.mem_append_right _ hp)
          exact ⟨h1, by rw [hgr.block p.1 (m0.lt (List.mem_append_right _ hp)) (hoth p hp)]; exact h2⟩
      · simp only [List.cons_append, List.nil_append, List.map_cons, List.nodup_cons]
        have hnd := m0.nd
        rw [List.map_append, List.nodup_append] at hnd
        refine ⟨fun hm2 => ?_, hnd.2.1⟩
        obtain ⟨p, hp, he⟩ := List.mem_map.1 hm2
        rcases hgb with hgb | hgb
        · exact hoth p hp (by rw [he]; exact hgb)
        · have := m0.lt (List.mem_append_right I hp)
          omega

theorem GT_append {t c : Nat} {s x : Operand} {z : List Value} {A : Option Addr} [hc : HChunk I H H1] (ho : opAt ops i = some o) (hop : o.op = .call { callee := .builtin .append, args := #[s, x], argTypes := #[t, t] }) (hg : o.guard = none) (hd : o.dst = some d) (hN : Nat.blt d C.N = true)
    (hs : ev L s = some v) (hx : ev L x = some (.slice A m.length c)) (hO : Own sz e enc l v I) (hm : ∀ w, SH C.w0 C.M H w → RdL w sz enc A m)
    (ht : C.P.underlying t = some (.slice e)) (hz : zcOf C.P e = some z) (hsz : szOf C.P e = some sz) (hzl : z.length = sz ∧ 0 < sz) (hby : byOf C.P e = some by_) (hb : (l.length + m.length) * by_ ≤ 140737488355328 ∧ l.length + m.length ≤ 140737488355328)
    (henc : ∀ x, (enc x).length = sz) (h1 : ∀ x, ∀ u ∈ enc x, u.oneCell' = true)
    (hp : ∀ A' c' I', Own sz e enc (l ++ m) (.slice A' (l ++ m).length c') I' → GR C ops ((d, .slice A' (l ++ m).length c') :: L) D (I' ++ H1) pend)
    (h : ∀ A' c' I', Own sz e enc (l ++ m) (.slice A' (l ++ m).length c') I' → GT C ops k ((d, .slice A' (l ++ m).length c') :: L) D (I' ++ H1) n) : GT C ops k L D H (.ld i pend n) := by
  refine GT_ld ho hg (by simp [Oper.isDefer, hop]) fun a w st mm => ?_
  obtain ⟨v', I', w', hrun, hO', m'⟩ := run_append_own' (P := C.P) (ty := o.type) (c := c) mm hO (hm w mm) ht hz hsz hzl.1 hby hzl.2 hb henc h1
  have e1 : (execOp a.eval o).run C.P w = .ok (.value v') w' := by
    simp [execOp, hop, resolve, invoke, builtin, st.eval hs, st.eval hx, hrun]
  rw [e1]
  obtain ⟨A', c', rfl, _⟩ := hO'.form
  exact ⟨_, _, by rw [hd]; exact st.put hN _, m', hp _ _ _ hO', h _ _ _ hO'⟩

theorem Own.set {l : List α} {A : Option Addr} {nn c q : Nat} {x : α} {w0 w : World} {M : Nat → Prop} {P : Program} (hM : SH w0 M H w) [hc : HChunk I H H1] (hO : Own sz e enc l (.slice A nn c) I) (henc : ∀ x, (enc x).length = sz) (h1 : ∀ x, ∀ u ∈ enc x, u.oneCell' = true) (hq : q < l.length) (h0 : 0 < sz) :
    ∃ I' w', (storeCells ((ad A).add (q * sz)) (enc x)).run P w = .ok () w' ∧ Own sz e enc (l.set q x) (.slice A nn c) I' ∧ SH w0 M (I' ++ H1) w' := by
  have m0 := hM.perm hc.perm
  rcases hO with ⟨_, hl, _⟩ | ⟨g, c', rest, hv, hI, hr, hle, hcm⟩
  · subst hl; simp at hq
  · cases hv
    subst hI
    have hfl := flat_len henc l
    have hin : q * sz + (enc x).length ≤ (l.flatMap enc).length := by
      rw [hfl, henc]
      have : (q + 1) * sz ≤ l.length * sz := Nat.mul_le_mul_right _ hq
      rw [Nat.add_mul] at this; omega
    obtain ⟨w', hrun, m'⟩ := run_storeCells (P := P) (enc x) (q * sz) 0 (l.flatMap enc ++ rest) w m0 (h1 x) (by simp only [List.length_append]; omega)
    have e1 : (ad (some ⟨g, 0, none⟩)).add (q * sz) = ⟨g, q * sz, none⟩ := by simp [ad, add_lit]
    rw [e1]
    refine ⟨[(g, blk ((l.set q x).flatMap enc ++ rest) e)], w', hrun, .inr ⟨g, c, rest, by simp, rfl, by simpa using hr, by simpa using hle, hcm⟩, ?_⟩
    have e2 : (l.flatMap enc ++ rest).take (q * sz + 0) ++ enc x ++ (l.flatMap enc ++ rest).drop (q * sz + 0 + (enc x).length) = (l.set q x).flatMap enc ++ rest := by
      rw [← flat_set henc h0 l q x hq, setsAt_eq _ _ _ hin]
      simp only [Nat.add_zero]
      rw [List.take_append_of_le_length (by omega), List.drop_append_of_le_length (by omega)]
      simp [List.append_assoc]
    rw [e2] at m'
    exact m'

/-- s[k] = x, s of the call's own. -/
theorem GT_storeOwn {t q c nn : Nat} {x y : Operand} {A : Option Addr} {u : Value} {xx : α} [hc : HChunk I H H1] (ho : opAt ops i = some o) (hop : o.op = .store t x y) (hg : o.guard = none) (hd : o.dst = none)
    (hx : ev L x = some (.pointer (some ((ad A).add (q * sz))))) (hy : ev L y = some u) (hu : u.cells.toList = enc xx) (hs : szOf C.P t = some sz) (hO : Own sz e enc l (.slice A nn c) I) (henc : ∀ x, (enc x).length = sz) (h1 : ∀ x, ∀ u ∈ enc x, u.oneCell' = true) (hq : q < l.length) (h0 : 0 < sz)
    (hp : ∀ I', Own sz e enc (l.set q xx) (.slice A nn c) I' → GR C ops L D (I' ++ H1) pend) (h : ∀ I', Own sz e enc (l.set q xx) (.slice A nn c) I' → GT C ops k L D (I' ++ H1) n) : GT C ops k L D H (.ld i pend n) := by
  refine GT_ld ho hg (by simp [Oper.isDefer, hop]) fun a w st mm => ?_
  obtain ⟨inf, hi, rfl⟩ := Option.map_eq_some_iff.1 hs
  obtain ⟨I', w', hrun, hO', m'⟩ := Own.set (P := C.P) (x := xx) mm hO henc h1 hq h0
  have e1 : (execOp a.eval o).run C.P w = .ok .skip w' := by
    have hsz : u.cells.size = inf.size := by rw [← henc xx, ← hu]; simp
    simp [execOp, hop, st.eval hx, st.eval hy, Instr.storeAt, Instr.sureAddr, storeVar, sizeOf, typeInfo, hi, hsz, hu, hrun]
  rw [e1]
  exact ⟨L, _, by rw [hd]; exact st, m', hp I' hO', h I' hO'⟩

theorem Own.lit {b nn : Nat} {l : List α} {zz : List Value} (hx : l.flatMap enc = zz) (hn : nn = l.length) (hle : nn ≤ maxLen) : Own sz e enc l (.slice (some ⟨b, 0, none⟩) nn nn) [(b, blk zz e)] := by
  subst hx; subst hn
  exact .inr ⟨b, l.length, [], rfl, by simp, by simp, Nat.le_refl _, hle⟩
/-- A slice that make has made. -/
theorem Own.made {nn b : Nat} {x : α} {zz : List Value} (hx : (List.replicate nn (enc x)).flatten = zz) (hle : nn ≤ maxLen) : Own sz e enc (List.replicate nn x) (.slice (some ⟨b, 0, none⟩) nn nn) [(b, blk zz e)] := by
  subst hx
  refine .inr ⟨b, nn, [], by simp, ?_, by simp, by simp, hle⟩
  simp [List.flatMap_replicate]
end acts
end Go.Sx
