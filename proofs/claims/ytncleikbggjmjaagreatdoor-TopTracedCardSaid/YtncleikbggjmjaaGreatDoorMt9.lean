/- Texts of this proof, one behind the other: Sx7, Sx8. -/
import Derived.Test.YtncleikbggjmjaaGreatDoorMt8
import Derived.Maps.AppendAt
/-
  Slices of the call's own: they are appended to, and their elements are stored.
-/
namespace Go.Sx
open Go.RowKit
def Own {α : Type} (sz : Nat) (e : TypeId) (enc : α → List Value) (l : List α) (v : Value) (I : Items) : Prop :=
  (v = .slice none 0 0 ∧ l = [] ∧ I = []) ∨
  ∃ g c rest, v = .slice (some ⟨g, 0, none⟩) l.length c ∧ I = [(g, blk (l.flatMap enc ++ rest) e)] ∧ rest.length = (c - l.length) * sz ∧ l.length ≤ c ∧ c ≤ maxLen
class HChunk (I H : Items) (H' : outParam Items) : Prop where
  perm : List.Perm H (I ++ H')
instance (priority := high) HChunk.nil {H : Items} : HChunk [] H H := ⟨.refl _⟩
instance (priority := high) HChunk.head {I H : Items} : HChunk I (I ++ H) H := ⟨.refl _⟩
instance (priority := high) HChunk.self {I : Items} : HChunk I I [] := ⟨by simp⟩
instance HChunk.one {g : Nat} {o : Obj} {H H' : Items} [h : HTake g H o H'] : HChunk [(g, o)] H H' := ⟨h.perm⟩
instance HChunk.tail {I H H' : Items} {p : Nat × Obj} [h : HChunk I H H'] : HChunk I (p :: H) (p :: H') := ⟨(h.perm.cons _).trans (List.perm_middle.symm)⟩
instance HChunk.right {I J H H' : Items} [h : HChunk I H H'] : HChunk I (J ++ H) (J ++ H') :=
  ⟨(h.perm.append_left J).trans (by rw [← List.append_assoc, ← List.append_assoc]; exact List.perm_append_comm.append_right _)⟩
instance HChunk.left {I J J' H : Items} [h : HChunk I J J'] : HChunk I (J ++ H) (J' ++ H) := ⟨by rw [← List.append_assoc]; exact h.perm.append_right _⟩
theorem HS.chunk {C : Cx} {H H1 H' I : Items} [h : HChunk I H H1] (h' : HS C H1 H') : HS C H (I ++ H') := by
  obtain ⟨R, hR⟩ := h'
  exact ⟨R, h.perm.trans (by rw [List.append_assoc]; exact hR.append_left I)⟩
theorem SH.chunk {w0 : World} {M : Nat → Prop} {H H1 I : Items} {w : World} (m : SH w0 M H w) [h : HChunk I H H1] : SH w0 M I w := by
  have := m.perm h.perm
  exact this.drop (fun p hp => List.mem_append_left _ hp) (by have := this.nd; rw [List.map_append] at this; exact (List.nodup_append.1 this).1)
section
variable {α : Type} {sz e : Nat} {enc : α → List Value} {l : List α} {v : Value} {I : Items}
theorem Own.nil : Own (α := α) sz e enc [] (.slice none 0 0) [] := .inl ⟨rfl, rfl, rfl⟩
theorem Own.form (h : Own sz e enc l v I) : ∃ A c, v = .slice A l.length c ∧ l.length ≤ c := by
  rcases h with ⟨rfl, rfl, rfl⟩ | ⟨g, c, rest, rfl, _, _, hc, _⟩
  · exact ⟨none, 0, rfl, Nat.le_refl _⟩
  · exact ⟨_, _, rfl, hc⟩
theorem Own.isSome {A : Option Addr} {n c : Nat} (h : Own sz e enc l (.slice A n c) I) {k : Nat} (hk : k < l.length) : A.isSome = true := by
  rcases h with ⟨_, rfl, _⟩ | ⟨g, c, rest, he, _⟩
  · simp at hk
  · cases he; rfl
theorem Own.rd {A : Option Addr} {n c : Nat} {w0 w : World} {M : Nat → Prop} (h : Own sz e enc l (.slice A n c) I) (hs : ∀ x, (enc x).length = sz) (m : SH w0 M I w) : RdL w sz enc A l := by
  rcases h with ⟨he, rfl, rfl⟩ | ⟨g, c, rest, he, rfl, _⟩
  · exact RdL.nil
  · cases he
    exact RdL.own m hs
theorem Own.rdH {A : Option Addr} {n c : Nat} {w0 w : World} {M : Nat → Prop} {H H1 : Items} (h : Own sz e enc l (.slice A n c) I) (hs : ∀ x, (enc x).length = sz) (m : SH w0 M H w) [HChunk I H H1] : RdL w sz enc A l := h.rd hs (m.chunk (I := I) (H1 := H1))
theorem CellAt.own [Inhabited α] {C : Cx} {H H1 : Items} {A : Option Addr} {n c k j : Nat} {u : Value} (h : Own sz e enc l (.slice A n c) I) [HChunk I H H1] (hs : ∀ x, (enc x).length = sz) (hk : k < l.length) (hv : (enc (l.getD k default))[j]? = some u) : CellAt C H ((ad A).add (k * sz + j)) u :=
  fun _ m => (h.rdH hs m).cell k _ (getD_of default hk) j u hv
theorem CellAt.own0 [Inhabited α] {C : Cx} {H H1 : Items} {A : Option Addr} {n c k : Nat} {u : Value} (h : Own sz e enc l (.slice A n c) I) [HChunk I H H1] (hs : ∀ x, (enc x).length = sz) (hk : k < l.length) (hv : (enc (l.getD k default))[0]? = some u) : CellAt C H ((ad A).add (k * sz)) u :=
  CellAt.own (j := 0) h hs hk hv
theorem CellsAt.own [Inhabited α] {C : Cx} {H H1 : Items} {A : Option Addr} {n c k : Nat} (h : Own sz e enc l (.slice A n c) I) [HChunk I H H1] (hs : ∀ x, (enc x).length = sz) (hk : k < l.length) : CellsAt C H ((ad A).add (k * sz)) (enc (l.getD k default)) := by
  intro i u hi
  rw [add_add']
  exact CellAt.own h hs hk hi
end
section acts
variable {C : Cx} {L : Slots} {D : List Deferred} {H : Items} {k : List Item} {ops : Array Oper} {i d : Nat} {o : Oper} {n : Tr} {pend : List Nat}
variable {α : Type} {sz e by_ : Nat} {enc : α → List Value} {l m : List α} {v : Value} {I H1 : Items}
theorem flat_len (hs : ∀ x, (enc x).length = sz) (l : List α) : (l.flatMap enc).length = l.length * sz := by
  induction l with
  | nil => simp
  | cons x l ih => simp [hs, ih, Nat.add_mul, Nat.add_comm]
theorem run_append_of_nil' {P : Program} {w : World} {t ty : Nat} {inf : TypeInfo} (ht : P.underlying t = some (.slice e)) (hi : P.info? e = some inf) {A : Option Addr} {n c q : Nat} (hn : n ≤ c) : (Builtin.append_ #[t, t] ty #[.slice A n c, .slice none 0 q]).run P w = .ok (.slice A n c) w := by
  have hle : n + 0 ≤ c := hn
  simp [Builtin.append_, underlying, ht, sizeOf, typeInfo, hi, Builtin.lenOf, Builtin.firstCells, hn]
  cases A <;> simp [storeCells]
theorem run_append_own' {P : Program} {w0 w : World} {M : Nat → Prop} {t ty : Nat} {z : List Value} {A : Option Addr} {c : Nat} (hM : SH w0 M H w) [hc : HChunk I H H1] (hO : Own sz e enc l v I) (hm : RdL w sz enc A m)
    (ht : P.underlying t = some (.slice e)) (hz : zcOf P e = some z) (hs : szOf P e = some sz) (hzl : z.length = sz) (hby : byOf P e = some by_) (h0 : 0 < sz) (hb : (l.length + m.length) * by_ ≤ 140737488355328 ∧ l.length + m.length ≤ 140737488355328)
    (henc : ∀ x, (enc x).length = sz) (h1 : ∀ x, ∀ u ∈ enc x, u.oneCell' = true) :
    ∃ v' I' w', (Builtin.append_ #[t, t] ty #[v, .slice A m.length c]).run P w = .ok v' w' ∧ Own sz e enc (l ++ m) v' I' ∧ SH w0 M (I' ++ H1) w' := by
  obtain ⟨z0, hz0, rfl⟩ := Option.map_eq_some_iff.1 hz
  obtain ⟨inf, hi, hzz⟩ := Option.bind_eq_some_iff.1 hz0
  obtain ⟨inf', hi', hsz⟩ := Option.map_eq_some_iff.1 hs
  obtain ⟨inf'', hi'', hbb⟩ := Option.map_eq_some_iff.1 hby
  rw [hi] at hi' hi''; cases hi'; cases hi''
  have m0 := hM.perm hc.perm
  by_cases hm0 : m = []
  · subst hm0
    obtain ⟨A', c', hv, hle⟩ := hO.form
    cases A with
    | none =>
      refine ⟨v, I, w, ?_, by simpa using hO, m0⟩
      rw [hv]
      exact run_append_of_nil' ht hi hle
    | some a =>
      refine ⟨v, I, w, ?_, by simpa using hO, m0⟩
      rw [hv]
      have : l.length + 0 ≤ c' := hle
      simp [Builtin.append_, underlying, ht, sizeOf, typeInfo, hi, Builtin.lenOf, Builtin.firstCells, hle, loadCells, loadCellsFrom]
      cases A' <;> simp [storeCells]
  · obtain ⟨a, rfl⟩ := Option.isSome_iff_exists.1 (hm.there hm0)
    have hfl := flat_len henc l
    have hfm := flat_len henc m
    have hown : w.ownsRow 0 e sz v l.length (l.flatMap enc) := by
      refine ⟨hfl, ?_⟩
      rcases hO with ⟨hv, hl, _⟩ | ⟨g, c', rest, hv, hI, hr, hle, hcm⟩
      · subst hl; exact .inl ⟨hv, rfl⟩
      · subst hI
        have hit := (m0.item (g, blk (l.flatMap enc ++ rest) e) (by simp)).2
        refine .inr ⟨g, c', (l.flatMap enc ++ rest).toArray, hv, Nat.zero_le _, hit, hle, hcm, ?_, ?_⟩
        · simp only [List.size_toArray, List.length_append, hfl, hr]
          rw [← Nat.add_mul]; congr 1; omega
        · rw [List.toList_toArray, ← hfl]; simp
    have hnews : ∀ j u, (m.flatMap enc)[j]? = some u → w.cell? (a.add j) = some u := by
      intro j u hj
      have hlt := (List.getElem?_eq_some_iff.1 hj).1
      rw [hfm] at hlt
      have hq : j / sz < m.length := Nat.div_lt_of_lt_mul (by rw [Nat.mul_comm]; exact hlt)
      have hr : j % sz < sz := Nat.mod_lt _ h0
      have hj' : j = (j / sz) * sz + j % sz := by have := Nat.div_add_mod j sz; rw [Nat.mul_comm] at this; exact this.symm
      have hx : m[j / sz]? = some m[j / sz] := List.getElem?_eq_getElem hq
      have hu : (enc m[j / sz])[j % sz]? = some ((enc m[j / sz])[j % sz]'(by rw [henc]; exact hr)) := List.getElem?_eq_getElem _
      have hfg := flat_get henc m _ _ hx _ _ hu
      rw [← hj', hj] at hfg
      have := hm.cell _ _ hx _ _ hu
      rw [← hj'] at this
      simp only [ad, Option.getD_some] at this
      rw [this, ← hfg]
    obtain ⟨v', w', hrun, hrow, hgr, _, hat⟩ := run_append_own_at (P := P) w 0 t ty e inf z0 sz by_ ht hi hzz hsz hbb (by simpa using hzl) h0 v l.length (l.flatMap enc) hown a m.length c (m.flatMap enc) hfm hnews
      (fun u hu => by obtain ⟨x, _, hx⟩ := List.mem_flatMap.1 hu; exact h1 x u hx) (by simp only [maxLen]; omega) hb.1 (Nat.zero_le _)
    -- the others are as they were
    have hoth : ∀ p ∈ H1, some p.1 ≠ v.ownBlock := by
      intro p hp he
      rcases hO with ⟨hv, _, _⟩ | ⟨g, c', rest, hv, hI, _⟩
      · subst hv; simp [Value.ownBlock] at he
      · subst hv; subst hI
        simp only [Value.ownBlock, Option.some.injEq] at he
        have hnd := m0.nd
        simp only [List.cons_append, List.nil_append, List.map_cons, List.nodup_cons] at hnd
        exact hnd.1 (List.mem_map.2 ⟨p, hp, he⟩)
    have hold : ∀ k, k < w0.heap.size → ¬ M k → some k ≠ v.ownBlock := by
      intro k hk hMk he
      rcases hO with ⟨hv, _, _⟩ | ⟨g, c', rest, hv, hI, _⟩
      · subst hv; simp [Value.ownBlock] at he
      · subst hv; subst hI
        simp only [Value.ownBlock, Option.some.injEq] at he
        subst he
        rcases (m0.item (k, blk (l.flatMap enc ++ rest) e) (by simp)).1 with h | h
        · simp only at h; omega
        · exact hMk h
    rcases hrow.2 with ⟨_, hz⟩ | ⟨g, cap, cur, hv', _, hg, hnc, hcm, hcs, hct⟩
    · exfalso
      have : 0 < m.length := List.length_pos_iff.2 hm0
      omega
    refine ⟨v', [(g, blk cur.toList e)], w', hrun, .inr ⟨g, cap, cur.toList.drop ((l.length + m.length) * sz), by rw [hv']; simp, ?_, ?_, by simpa using hnc, hcm⟩, ?_⟩
    · have : (l ++ m).flatMap enc ++ cur.toList.drop ((l.length + m.length) * sz) = cur.toList := by
        rw [List.flatMap_append, ← hct, List.take_append_drop]
      rw [this]
    · rw [List.length_drop, Array.length_toList, hcs, List.length_append, Nat.sub_mul]
    · have hgb : some g = v.ownBlock ∨ g = w.heap.size := by
        rw [hv'] at hat
        simp only [Value.ownBlock, Option.some.injEq] at hat
        exact hat
      refine ⟨hgr.os.trans hM.os, hgr.tape.trans hM.tape, hgr.output.trans hM.output, Nat.le_trans hM.size hgr.size, fun k hk hMk => ?_, ?_, ?_⟩
      · rw [hgr.block k (Nat.lt_of_lt_of_le hk hM.size) (hold k hk hMk)]
        exact hM.old k hk hMk
      · intro p hp
        rcases List.mem_cons.1 hp with rfl | hp
        · refine ⟨?_, by simpa using hg⟩
          rcases hgb with hgb | hgb
          · rcases hO with ⟨hv, _, _⟩ | ⟨g2, c', rest, hv, hI, _⟩
            · subst hv; simp [Value.ownBlock] at hgb
            · subst hv; subst hI
              simp only [Value.ownBlock, Option.some.injEq] at hgb
              subst hgb
              exact (m0.item (g, blk (l.flatMap enc ++ rest) e) (by simp)).1
          · exact .inl (by simp only [hgb]; exact hM.size)
        · obtain ⟨h1, h2⟩ := m0.item p (List.mem_append_right _ hp)
          exact ⟨h1, by rw [hgr.block p.1 (m0.lt (List.mem_append_right _ hp)) (hoth p hp)]; exact h2⟩
      · simp only [List.cons_append, List.nil_append, List.map_cons, List.nodup_cons]
        have hnd := m0.nd
        rw [List.map_append, List.nodup_append] at hnd
        refine ⟨fun hm2 => ?_, hnd.2.1⟩
        obtain ⟨p, hp, he⟩ := List.mem_map.1 hm2
        rcases hgb with hgb | hgb
        · exact hoth p hp (by rw [he]; exact hgb)
        · have := m0.lt (List.mem_append_right I hp)
          omega
theorem GT_append {t c : Nat} {s x : Operand} {z : List Value} {A : Option Addr} [hc : HChunk I H H1] (ho : opAt ops i = some o) (hop : o.op = .call { callee := .builtin .append, args := #[s, x], argTypes := #[t, t] }) (hg : o.guard = none) (hd : o.dst = some d) (hN : Nat.blt d C.N = true)
    (hs : ev L s = some v) (hx : ev L x = some (.slice A m.length c)) (hO : Own sz e enc l v I) (hm : ∀ w, SH C.w0 C.M H w → RdL w sz enc A m)
    (ht : C.P.underlying t = some (.slice e)) (hz : zcOf C.P e = some z) (hsz : szOf C.P e = some sz) (hzl : z.length = sz ∧ 0 < sz) (hby : byOf C.P e = some by_) (hb : (l.length + m.length) * by_ ≤ 140737488355328 ∧ l.length + m.length ≤ 140737488355328)
    (henc : ∀ x, (enc x).length = sz) (h1 : ∀ x, ∀ u ∈ enc x, u.oneCell' = true)
    (hp : ∀ A' c' I', Own sz e enc (l ++ m) (.slice A' (l ++ m).length c') I' → GR C ops ((d, .slice A' (l ++ m).length c') :: L) D (I' ++ H1) pend)
    (h : ∀ A' c' I', Own sz e enc (l ++ m) (.slice A' (l ++ m).length c') I' → GT C ops k ((d, .slice A' (l ++ m).length c') :: L) D (I' ++ H1) n) : GT C ops k L D H (.ld i pend n) := by
  refine GT_ld ho hg (by simp [Oper.isDefer, hop]) fun a w st mm => ?_
  obtain ⟨v', I', w', hrun, hO', m'⟩ := run_append_own' (P := C.P) (ty := o.type) (c := c) mm hO (hm w mm) ht hz hsz hzl.1 hby hzl.2 hb henc h1
  have e1 : (execOp a.eval o).run C.P w = .ok (.value v') w' := by
    simp [execOp, hop, resolve, invoke, builtin, st.eval hs, st.eval hx, hrun]
  rw [e1]
  obtain ⟨A', c', rfl, _⟩ := hO'.form
  exact ⟨_, _, by rw [hd]; exact st.put hN _, m', hp _ _ _ hO', h _ _ _ hO'⟩
theorem Own.set {l : List α} {A : Option Addr} {nn c q : Nat} {x : α} {w0 w : World} {M : Nat → Prop} {P : Program} (hM : SH w0 M H w) [hc : HChunk I H H1] (hO : Own sz e enc l (.slice A nn c) I) (henc : ∀ x, (enc x).length = sz) (h1 : ∀ x, ∀ u ∈ enc x, u.oneCell' = true) (hq : q < l.length) (h0 : 0 < sz) :
    ∃ I' w', (storeCells ((ad A).add (q * sz)) (enc x)).run P w = .ok () w' ∧ Own sz e enc (l.set q x) (.slice A nn c) I' ∧ SH w0 M (I' ++ H1) w' := by
  have m0 := hM.perm hc.perm
  rcases hO with ⟨_, hl, _⟩ | ⟨g, c', rest, hv, hI, hr, hle, hcm⟩
  · subst hl; simp at hq
  · cases hv
    subst hI
    have hfl := flat_len henc l
    have hin : q * sz + (enc x).length ≤ (l.flatMap enc).length := by
      rw [hfl, henc]
      have : (q + 1) * sz ≤ l.length * sz := Nat.mul_le_mul_right _ hq
      rw [Nat.add_mul] at this; omega
    obtain ⟨w', hrun, m'⟩ := run_storeCells (P := P) (enc x) (q * sz) 0 (l.flatMap enc ++ rest) w m0 (h1 x) (by simp only [List.length_append]; omega)
    have e1 : (ad (some ⟨g, 0, none⟩)).add (q * sz) = ⟨g, q * sz, none⟩ := by simp [ad, add_lit]
    rw [e1]
    refine ⟨[(g, blk ((l.set q x).flatMap enc ++ rest) e)], w', hrun, .inr ⟨g, c, rest, by simp, rfl, by simpa using hr, by simpa using hle, hcm⟩, ?_⟩
    have e2 : (l.flatMap enc ++ rest).take (q * sz + 0) ++ enc x ++ (l.flatMap enc ++ rest).drop (q * sz + 0 + (enc x).length) = (l.set q x).flatMap enc ++ rest := by
      rw [← flat_set henc h0 l q x hq, setsAt_eq _ _ _ hin]
      simp only [Nat.add_zero]
      rw [List.take_append_of_le_length (by omega), List.drop_append_of_le_length (by omega)]
      simp [List.append_assoc]
    rw [e2] at m'
    exact m'
theorem GT_storeOwn {t q c nn : Nat} {x y : Operand} {A : Option Addr} {u : Value} {xx : α} [hc : HChunk I H H1] (ho : opAt ops i = some o) (hop : o.op = .store t x y) (hg : o.guard = none) (hd : o.dst = none)
    (hx : ev L x = some (.pointer (some ((ad A).add (q * sz))))) (hy : ev L y = some u) (hu : u.cells.toList = enc xx) (hs : szOf C.P t = some sz) (hO : Own sz e enc l (.slice A nn c) I) (henc : ∀ x, (enc x).length = sz) (h1 : ∀ x, ∀ u ∈ enc x, u.oneCell' = true) (hq : q < l.length) (h0 : 0 < sz)
    (hp : ∀ I', Own sz e enc (l.set q xx) (.slice A nn c) I' → GR C ops L D (I' ++ H1) pend) (h : ∀ I', Own sz e enc (l.set q xx) (.slice A nn c) I' → GT C ops k L D (I' ++ H1) n) : GT C ops k L D H (.ld i pend n) := by
  refine GT_ld ho hg (by simp [Oper.isDefer, hop]) fun a w st mm => ?_
  obtain ⟨inf, hi, rfl⟩ := Option.map_eq_some_iff.1 hs
  obtain ⟨I', w', hrun, hO', m'⟩ := Own.set (P := C.P) (x := xx) mm hO henc h1 hq h0
  have e1 : (execOp a.eval o).run C.P w = .ok .skip w' := by
    have hsz : u.cells.size = inf.size := by rw [← henc xx, ← hu]; simp
    simp [execOp, hop, st.eval hx, st.eval hy, Instr.storeAt, Instr.sureAddr, storeVar, sizeOf, typeInfo, hi, hsz, hu, hrun]
  rw [e1]
  exact ⟨L, _, by rw [hd]; exact st, m', hp I' hO', h I' hO'⟩
theorem Own.lit {b nn : Nat} {l : List α} {zz : List Value} (hx : l.flatMap enc = zz) (hn : nn = l.length) (hle : nn ≤ maxLen) : Own sz e enc l (.slice (some ⟨b, 0, none⟩) nn nn) [(b, blk zz e)] := by
  subst hx; subst hn
  exact .inr ⟨b, l.length, [], rfl, by simp, by simp, Nat.le_refl _, hle⟩
theorem Own.made {nn b : Nat} {x : α} {zz : List Value} (hx : (List.replicate nn (enc x)).flatten = zz) (hle : nn ≤ maxLen) : Own sz e enc (List.replicate nn x) (.slice (some ⟨b, 0, none⟩) nn nn) [(b, blk zz e)] := by
  subst hx
  refine .inr ⟨b, nn, [], by simp, ?_, by simp, by simp, hle⟩
  simp [List.flatMap_replicate]
end acts
end Go.Sx
/-
  Calls that write what the caller owns; ranges over functions, and the rounds of their bodies.
-/
namespace Go.Sx
open Go.RowKit
section calls
variable {C : Cx} {L : Slots} {D : List Deferred} {H : Items} {k : List Item} {ops : Array Oper} {i d : Nat} {o : Oper} {n : Tr} {pend : List Nat}
theorem run_enter {a : Act} {w : World} {N : Nat} (s : St N L D a) {P : Program} {f : Operand} {args : Array Operand} {ts : Array TypeId} {fi : FuncId} {fs cs : Array Value} {vs args' : List Value} (hop : o.op = .call { callee := .value f, args := args, argTypes := ts })
    (hf : ev L f = some (.func (.func fi) fs cs)) (ha : evs L args.toList = some vs) (he : fs.toList ++ vs ++ cs.toList = args') (hb : runs P fi = true) : (execOp a.eval o).run P w = .ok (.enter fi args'.toArray) w := by
  obtain ⟨fn, c, hfn, hbody, hname⟩ := runs_of hb
  have e0 : args.map a.eval = vs.toArray := by
    have := s.evals ha
    rw [← this]; obtain ⟨l⟩ := args; simp
  have e1 : fs ++ vs.toArray ++ cs = args'.toArray := by rw [← he]; simp
  simp [execOp, hop, resolve, s.eval hf, Deferred.ofValue, invoke, callFunc, hfn, hbody, hname, e0, e1]
theorem GT_callX {ι : Type} {H' : ι → Items} {V : ι → Value} {p : ι → Prop} {f : Operand} {args : Array Operand} {ts : Array TypeId} {fi : FuncId} {fs cs : Array Value} {vs args' : List Value}
    (ho : opAt ops i = some o) (hop : o.op = .call { callee := .value f, args := args, argTypes := ts }) (hg : o.guard = none) (hd : o.dst = some d) (hN : Nat.blt d C.N = true)
    (hf : ev L f = some (.func (.func fi) fs cs)) (ha : evs L args.toList = some vs) (he : fs.toList ++ vs ++ cs.toList = args') (hb : runs C.P fi = true)
    (hc : ∀ w, SH C.w0 C.M H w → Ret C.P fi args'.toArray w fun v w' => ∃ x, p x ∧ v = V x ∧ SH C.w0 C.M (H' x) w')
    (hp : ∀ x, p x → GR C ops ((d, V x) :: L) D (H' x) pend) (h : ∀ x, p x → GT C ops k ((d, V x) :: L) D (H' x) n) : GT C ops k L D H (.ld i pend n) := by
  refine GT_ld ho hg (by simp [Oper.isDefer, hop]) fun a w s m => ?_
  rw [run_enter s hop hf ha he hb]
  exact (hc w m).mono fun v w' ⟨x, hx, hv, m'⟩ => by
    subst hv
    exact ⟨_, _, by rw [hd]; exact s.put hN _, m', hp x hx, h x hx⟩
def YieldTo (P : Program) (w0 : World) (M : Nat → Prop) (l : Nat) (args : List Value) (H : Items) (R : Value → Items → Prop) : Prop :=
  ∀ w, SH w0 M H w → NextOk P ((Instr.yield l args.toArray).run P w) fun v w' => ∃ H', R v H' ∧ SH w0 M H' w'
theorem run_yield {a : Act} {w : World} {N : Nat} (s : St N L D a) {P : Program} {f : Operand} {args : Array Operand} {ts : Array TypeId} {l : Nat} {vs : List Value} (hop : o.op = .call { callee := .value f, args := args, argTypes := ts })
    (hf : ev L f = some (.func (.yield l) #[] #[])) (ha : evs L args.toList = some vs) : (execOp a.eval o).run P w = (Instr.yield l vs.toArray).run P w := by
  have e0 : args.map a.eval = vs.toArray := by
    have := s.evals ha
    rw [← this]; obtain ⟨l⟩ := args; simp
  simp [execOp, hop, resolve, s.eval hf, Deferred.ofValue, invoke, e0]
theorem GT_yield {f : Operand} {args : Array Operand} {ts : Array TypeId} {l : Nat} {vs : List Value} {R : Value → Items → Prop}
    (ho : opAt ops i = some o) (hop : o.op = .call { callee := .value f, args := args, argTypes := ts }) (hg : o.guard = none) (hd : o.dst = some d) (hN : Nat.blt d C.N = true)
    (hf : ev L f = some (.func (.yield l) #[] #[])) (ha : evs L args.toList = some vs) (hc : YieldTo C.P C.w0 C.M l vs H R)
    (hp : ∀ v H', R v H' → GR C ops ((d, v) :: L) D H' pend) (h : ∀ v H', R v H' → GT C ops k ((d, v) :: L) D H' n) : GT C ops k L D H (.ld i pend n) := by
  refine GT_ld ho hg (by simp [Oper.isDefer, hop]) fun a w s m => ?_
  rw [run_yield s hop hf ha]
  exact (hc w m).mono fun v w' ⟨H', hR, m'⟩ => ⟨_, _, by rw [hd]; exact s.put hN _, m', hp v H' hR, h v H' hR⟩
theorem GT_yield_g {f : Operand} {args : Array Operand} {ts : Array TypeId} {l : Nat} {vs : List Value} {R : Value → Items → Prop} {j dj : Nat} {g : Bool} {oj : Oper}
    (ho : opAt ops i = some o) (hop : o.op = .call { callee := .value f, args := args, argTypes := ts }) (hg : o.guard = some (j, g)) (hj : opAt ops j = some oj) (hdj : oj.dst = some dj) (hl : look L dj = some (.bool g)) (hd : o.dst = some d) (hN : Nat.blt d C.N = true)
    (hf : ev L f = some (.func (.yield l) #[] #[])) (ha : evs L args.toList = some vs) (hc : YieldTo C.P C.w0 C.M l vs H R)
    (hp : ∀ v H', R v H' → GR C ops ((d, v) :: L) D H' pend) (h : ∀ v H', R v H' → GT C ops k ((d, v) :: L) D H' n) : GT C ops k L D H (.ld i pend n) := by
  refine GT_ld_g ho hg hj hdj hl (by simp [Oper.isDefer, hop]) fun a w s m => ?_
  rw [run_yield s hop hf ha]
  exact (hc w m).mono fun v w' ⟨H', hR, m'⟩ => ⟨_, _, by rw [hd]; exact s.put hN _, m', hp v H' hR, h v H' hR⟩
end calls
/-! ### a frame that begins in a world in which something has turned already -/
theorem Ret_ofH {P : Program} {f N : Nat} {w0 w : World} {R : Value → World → Prop} {fn : Func} {c : Code} {vs : List Value} {H : Items} (hm : P.follows .mixedOrders = true) (M : Nat → Prop) (hf : P.funcs[f]? = some fn) (hb : fn.body = some c) (hN : fn.ntmps = N) (hle0 : Nat.ble vs.length N = true)
    (m : SH w0 M H w) (h : GE (cx P hm f N w0 M R) (slotsOf 0 vs) [] H [.code c]) : Ret P f vs.toArray w R := by
  have hle : vs.length ≤ N := Nat.le_of_ble_eq_true hle0
  refine Ret_of_E hf hb (h _ w ⟨?_, rfl, fun t v hv => ?_⟩ m)
  · simp [hN]; omega
  · obtain ⟨_, h2⟩ := slotsOf_look vs 0 t v hv
    simp only [Nat.sub_zero] at h2
    have hlt : t < vs.length := (List.getElem?_eq_some_iff.1 h2).1
    rw [Array.getElem?_append_left (by simpa using hlt)]
    simpa using h2
/-! ### rounds -/
def rbase (f l : Nat) : Frame := { (default : Frame) with fn := f, kind := .normal, roundOf := some l }
def leaves : List Item → Option Code → Prop
  | [], j => j = none
  | .code .ret :: _, j => j = some .ret
  | .code (.exit i) :: k, j => exitTo i k = none ∧ j = some (.exit i)
  | _, _ => False
def FinRound (l : Nat) (R : Value → World → Prop) (fr : Frame) (w : World) : Prop :=
  fr.mode = .run ∧ fr.kind = .normal ∧ fr.roundOf = some l ∧ ∃ j r, leaves fr.todo j ∧ w.heap[l]? = some (.loop r) ∧
    R (.bool j.isNone) { w with heap := w.heap.setIfInBounds l (.loop { r with state := if j.isNone then .ready else .done, pending := j }) }
theorem run_endRound {P : Program} {w : World} {l : Nat} {r : Loop} {j : Option Code} (h : w.heap[l]? = some (.loop r)) : (Instr.endRound l j).run P w = .ok (.bool j.isNone) { w with heap := w.heap.setIfInBounds l (.loop { r with state := if j.isNone then .ready else .done, pending := j }) } := by
  simp [Instr.endRound, Instr.getLoop, getObj, setObj, Sem.run, h, bind, Sem.bind, pure]
theorem Rnd_of_E {P : Program} {l f : Nat} {tmps : Array Value} {assign body : Code} {w : World} {R : Value → World → Prop}
    (h : E P (FinRound l R) (rbase f l) [.code assign, .beginRound, .code body] { tmps := tmps, defers := [] } w) : Rnd P l f tmps assign body w R := by
  intro c cs
  obtain ⟨fr, w', ⟨hm, hk, hr, j, r, hj, hl, hR⟩, hs⟩ := h (c :: cs)
  have e : on (rbase f l) { tmps := tmps, defers := [] } [.code assign, .beginRound, .code body] = Frame.round l f tmps assign body .normal := rfl
  rw [e] at hs
  refine ⟨_, _, hR, hs.trans (.one (step_lone_go ?_))⟩
  have hend := run_endRound (P := P) (j := j) hl
  cases ht : fr.todo with
  | nil =>
    rw [ht] at hj
    simp only [leaves] at hj
    subst hj
    simp [stepG, hm, stepG.exec, ht, hr, hend, doReturn, hk]
  | cons it k =>
    rw [ht] at hj
    cases it with
    | code cc =>
      cases cc with
      | ret =>
        simp only [leaves] at hj
        subst hj
        simp [stepG, hm, stepG.exec, ht, hr, hend, doReturn, hk]
      | exit i =>
        simp only [leaves] at hj
        obtain ⟨h1, rfl⟩ := hj
        simp [stepG, hm, stepG.exec, ht, hr, hend, doReturn, hk, h1]
      | _ => exact hj.elim
    | _ => exact hj.elim
theorem E_beginRound {P : Program} {F : Frame → World → Prop} {f l : Nat} {k : List Item} {a : Act} {w : World} {r : Loop} (h : w.heap[l]? = some (.loop r)) (hs : r.state = .ready)
    (hE : E P F (rbase f l) k a { w with heap := w.heap.setIfInBounds l (.loop { r with state := .busy }) }) : E P F (rbase f l) (.beginRound :: k) a w := by
  refine hE.step fun cs => step_lone_go ?_
  have hb : (Instr.beginRound l).run P w = .ok () { w with heap := w.heap.setIfInBounds l (.loop { r with state := .busy }) } := by
    simp [Instr.beginRound, Instr.getLoop, getObj, setObj, Sem.run, h, hs, bind, Sem.bind, pure]
  simp [stepG, stepG.exec, on, rbase, stepG.apply, Frame.finish, hb]
abbrev rcx (P : Program) (hm : P.follows .mixedOrders = true) (f l N : Nat) (w0 : World) (M : Nat → Prop) (R : Value → World → Prop) : Cx :=
  { P := P, F := FinRound l R, b := rbase f l, hb := rfl, hm := hm, N := N, w0 := w0, M := M }
section rounds
variable {P : Program} {hm : P.follows .mixedOrders = true} {f l N : Nat} {w0 : World} {M : Nat → Prop} {R : Value → World → Prop} {L : Slots} {H H' : Items} {k : List Item} {r : Loop}
theorem GE_beginRound [ht : HTake l H (.loop r) H'] (hs : r.state = .ready) (h : GE (rcx P hm f l N w0 M R) L [] ((l, .loop { r with state := .busy }) :: H') k) : GE (rcx P hm f l N w0 M R) L [] H (.beginRound :: k) := by
  intro a w s m
  have m' := m.perm ht.perm
  exact E_beginRound (m'.item _ (List.mem_cons_self ..)).2 hs (h a _ s (m'.set _))
theorem GE_leave (j : Option Code) (hj : leaves k j) [ht : HTake l H (.loop r) H'] (hR : ∀ w, SH (rcx P hm f l N w0 M R).w0 (rcx P hm f l N w0 M R).M ((l, .loop { r with state := if j.isNone then .ready else .done, pending := j }) :: H') w → R (.bool j.isNone) w) : GE (rcx P hm f l N w0 M R) L [] H k := by
  intro a w s m cs
  have m' := m.perm ht.perm
  have hb := (m'.item _ (List.mem_cons_self ..)).2
  refine ⟨on (rbase f l) a k, w, ⟨rfl, rfl, rfl, j, r, hj, hb, hR _ (m'.set _)⟩, .refl _ _⟩
theorem setAll_look {N : Nat} : ∀ (ps : List (Nat × Value)) (T : Array Value) (L : Slots), T.size = N → (∀ t v, look L t = some v → T[t]? = some v) → ps.all (fun p => Nat.blt p.1 N) = true →
    (ps.foldl (fun (T : Array Value) p => T.setIfInBounds p.1 p.2) T).size = N ∧ ∀ t v, look (ps.foldl (fun L p => p :: L) L) t = some v → (ps.foldl (fun (T : Array Value) p => T.setIfInBounds p.1 p.2) T)[t]? = some v
  | [], T, L, hs, h, _ => ⟨hs, h⟩
  | p :: ps, T, L, hs, h, hb => by
    simp only [List.all_cons, Bool.and_eq_true] at hb
    have st : St N L [] ⟨T, []⟩ := ⟨hs, rfl, h⟩
    have := st.put hb.1 p.2
    exact setAll_look ps _ (p :: L) this.size this.slot hb.2
theorem yield_of {vs : List Value} {T : Array Value} {Rv : Value → Items → Prop} {r : Loop} (hl : HFind l H (.loop r)) (hfn : r.fn = f) (hT : r.tmps = T) (hsz : T.size = N) (hlook : ∀ t v, look L t = some v → T[t]? = some v)
    (hps : r.params.toList.length = vs.length) (hbd : (r.params.toList.zip vs).all (fun p => Nat.blt p.1 N) = true) (hm : P.follows .mixedOrders = true)
    (h : GE (rcx P hm f l N w0 M fun v w' => ∃ H', Rv v H' ∧ SH w0 M H' w') ((r.params.toList.zip vs).foldl (fun L p => p :: L) L) [] H [.code r.assign, .beginRound, .code r.body]) : YieldTo P w0 M l vs H Rv := by
  intro w m
  have hit := (m.item _ hl.mem).2
  have hrun : (Instr.yield l vs.toArray).run P w = .ok (.round l r.fn ((r.params.zip vs.toArray).foldl (fun (tmps : Array Value) (t, a) => tmps.setIfInBounds t a) r.tmps) r.assign r.body) w := by
    have h1 : (Instr.getLoop l).run P w = .ok r w := by simp [Instr.getLoop, getObj, Sem.run, hit, bind, Sem.bind, pure]
    have h2 : ¬ vs.toArray.size ≠ r.params.size := by simp; simpa using hps.symm
    simp only [Instr.yield, Sem.run_bind, h1, Result.andThen_ok]
    rw [if_neg h2]
    simp
  rw [hrun]
  simp only [NextOk]
  refine Rnd_of_E ?_
  rw [hfn]
  have key := setAll_look (N := N) (r.params.toList.zip vs) T L hsz hlook hbd
  have e : ((r.params.zip vs.toArray).foldl (fun (tmps : Array Value) (x : Nat × Value) => tmps.setIfInBounds x.1 x.2) r.tmps) = (r.params.toList.zip vs).foldl (fun (T : Array Value) p => T.setIfInBounds p.1 p.2) T := by
    rw [← Array.foldl_toList, Array.toList_zip, hT]
  have e' : ((r.params.zip vs.toArray).foldl (fun (tmps : Array Value) (t, a) => tmps.setIfInBounds t a) r.tmps) = (r.params.toList.zip vs).foldl (fun (T : Array Value) p => T.setIfInBounds p.1 p.2) T := e
  rw [e']
  exact h _ w ⟨key.1, rfl, key.2⟩ m
end rounds
/-! ### the loop -/
theorem E_range {P : Program} {F : Frame → World → Prop} {b : Frame} {k : List Item} {a : Act} {w : World} {f : Operand} {params : Array Tmp} {assign body : Code} {fi : FuncId} {fs cs : Array Value}
    (hb : b.kind = .normal) (hr : b.roundOf = none) (hf : a.eval f = .func (.func fi) fs cs) (hrun : runs P fi = true)
    (h : Ret P fi (fs ++ #[.func (.yield (w.heap.size + 1)) #[] #[]] ++ cs) { w with heap := (w.heap.push (.deferred (some []))).push (.loop { state := .ready, pending := none, fn := b.fn, tmps := a.tmps, params := params, assign := assign, body := body, defers := w.heap.size }) } fun _ w' =>
      ∃ r, w'.heap[w.heap.size + 1]? = some (.loop r) ∧ r.state ≠ .busy ∧
        E P F b ((r.pending.map Item.code).toList ++ k) { a with defers := { target := .collected w.heap.size, args := #[] } :: a.defers } { w' with heap := w'.heap.setIfInBounds (w.heap.size + 1) (.loop { r with state := .exhausted }) }) :
    E P F b (.code (.rangeFunc f params assign body) :: k) a w := by
  intro cs'
  obtain ⟨fn, c, hfn, hbody, hname⟩ := runs_of hrun
  have heval : ∀ todo df, ({ on b a todo with defers := df } : Frame).eval f = .func (.func fi) fs cs := by
    intro todo df
    rw [← hf]; cases f <;> rfl
  let w2 : World := { w with heap := (w.heap.push (.deferred (some []))).push (.loop { state := .ready, pending := none, fn := b.fn, tmps := a.tmps, params := params, assign := assign, body := body, defers := w.heap.size }) }
  let a' : Act := { a with defers := { target := .collected w.heap.size, args := #[] } :: a.defers }
  have hstep1 : step P (lone (on b a (.code (.rangeFunc f params assign body) :: k)) cs' w) =
      .next (lone (Frame.enter P fi (fs ++ #[.func (.yield (w.heap.size + 1)) #[] #[]] ++ cs) .normal) (on b a' (.inRangeFunc (w.heap.size + 1) :: k) :: cs') w2) := by
    refine step_lone_go ?_
    have hent : (Instr.enterLoop b.fn a.tmps params assign body none).run P w = .ok (w.heap.size + 1, [{ target := .collected w.heap.size, args := #[] }]) w2 := by
      simp [Instr.enterLoop, newObj, Sem.run, bind, Sem.bind, pure, w2]
    have he := heval (.inRangeFunc (w.heap.size + 1) :: k) (a'.defers)
    simp only [on] at he
    simp only [stepG, on, stepG.exec, hr, Sem.runT_eq, hent, GStep.bare_after, List.singleton_append]
    have hap : (do let d ← resolve (Frame.eval { b with tmps := a.tmps, todo := .inRangeFunc (w.heap.size + 1) :: k, defers := { target := .collected w.heap.size, args := #[] } :: a.defers, mode := .run }) { callee := .value f, args := #[.const (.func (.yield (w.heap.size + 1)) #[] #[])], argTypes := #[] } 0; invoke d.target d.args : Sem Next).run P w2 = .ok (.enter fi (fs ++ #[.func (.yield (w.heap.size + 1)) #[] #[]] ++ cs)) w2 := by
      simp only [a'] at he
      have hc : Frame.eval { b with tmps := a.tmps, todo := .inRangeFunc (w.heap.size + 1) :: k, defers := { target := .collected w.heap.size, args := #[] } :: a.defers, mode := .run } (.const (.func (.yield (w.heap.size + 1)) #[] #[])) = .func (.yield (w.heap.size + 1)) #[] #[] := rfl
      simp [resolve, he, hc, Deferred.ofValue, invoke, callFunc, hfn, hbody, hname]
    simp only [hr] at hap
    simp only [stepG.apply, Sem.runT_eq, hap, GStep.bare_after, if_true]
    simp [a', hr]
  obtain ⟨e, w', fr, hR, hcomes, _, hleave⟩ := h (on b a' (.inRangeFunc (w.heap.size + 1) :: k) :: cs')
  cases e with
  | panicked c => exact hR.elim
  | outgrown => exact hR.elim
  | returned v =>
    obtain ⟨r, hl, hst, hE⟩ := hR
    obtain ⟨fr2, w3, hF, hs⟩ := hE cs'
    have hback : step P (lone fr (on b a' (.inRangeFunc (w.heap.size + 1) :: k) :: cs') w') = .next (lone (on b a' (.endRangeFunc (w.heap.size + 1) :: k)) cs' w') := step_leave_returned hleave
    have hendl : (Instr.endLoop (w.heap.size + 1)).run P w' = .ok r.pending { w' with heap := w'.heap.setIfInBounds (w.heap.size + 1) (.loop { r with state := .exhausted }) } := by
      simp [Instr.endLoop, Instr.getLoop, getObj, setObj, Sem.run, hl, hst, bind, Sem.bind, pure]
    have hend : step P (lone (on b a' (.endRangeFunc (w.heap.size + 1) :: k)) cs' w') = .next (lone (on b a' ((r.pending.map Item.code).toList ++ k)) cs' { w' with heap := w'.heap.setIfInBounds (w.heap.size + 1) (.loop { r with state := .exhausted }) }) :=
      step_lone_go (by simp [stepG, stepG.exec, on, hendl])
    exact ⟨fr2, w3, hF, .head hstep1 (Steps.trans hcomes (.head hback (.head hend hs)))⟩
theorem GE_range {C : Cx} {L : Slots} {D : List Deferred} {H : Items} {k : List Item} {f : Operand} {params : Array Tmp} {assign body : Code} {fi : FuncId} {fs cs : Array Value}
    (hr : C.b.roundOf = none) (hf : ev L f = some (.func (.func fi) fs cs)) (hrun : runs C.P fi = true)
    (h : ∀ (T : Array Value) (l q : Nat) (r0 : Loop), r0 = { state := .ready, pending := none, fn := C.b.fn, tmps := T, params := params, assign := assign, body := body, defers := q } → T.size = C.N → (∀ t v, look L t = some v → T[t]? = some v) → ∀ w,
      SH C.w0 C.M ((l, .loop r0) :: (q, .deferred (some [])) :: H) w →
      Ret C.P fi (fs.toList ++ [Value.func (.yield l) #[] #[]] ++ cs.toList).toArray w fun _ w' => ∃ r H', r.state ≠ .busy ∧ SH C.w0 C.M ((l, .loop r) :: (q, .deferred (some [])) :: H') w' ∧ GE C L ({ target := .collected q, args := #[] } :: D) ((q, .deferred (some [])) :: H') ((r.pending.map Item.code).toList ++ k)) :
    GE C L D H (.code (.rangeFunc f params assign body) :: k) := by
  intro a w s m
  have m1 := (m.alloc (.deferred (some []))).alloc (.loop { state := .ready, pending := none, fn := C.b.fn, tmps := a.tmps, params := params, assign := assign, body := body, defers := w.heap.size })
  simp only [Array.size_push] at m1
  obtain ⟨fs⟩ := fs
  obtain ⟨cs⟩ := cs
  refine E_range C.hb hr (s.eval hf) hrun ?_
  have e : (⟨fs⟩ : Array Value) ++ #[.func (.yield (w.heap.size + 1)) #[] #[]] ++ ⟨cs⟩ = (fs ++ [Value.func (.yield (w.heap.size + 1)) #[] #[]] ++ cs).toArray := by simp
  rw [e]
  refine (h a.tmps (w.heap.size + 1) w.heap.size _ rfl s.size s.slot _ m1).mono fun v w' ⟨r, H', hst, m', hE⟩ => ?_;refine ⟨r, (m'.item _ (List.mem_cons_self ..)).2, hst, hE _ _ ⟨s.size, by simp [s.defers], s.slot⟩ ?_⟩
  have := m'.set (.loop { r with state := .exhausted })
  exact this.drop (fun p hp => List.mem_cons_of_mem _ hp) (by have := this.nd; simp only [List.map_cons, List.nodup_cons] at this ⊢; exact this.2)
theorem HS.last {C : Cx} {H H1 I : Items} [h : HChunk I H H1] : HS C H I := ⟨H1, h.perm⟩
theorem YieldTo.chunk {P : Program} {w0 : World} {M : Nat → Prop} {l : Nat} {args : List Value} {H J G : Items} {R : Value → Items → Prop} (h : YieldTo P w0 M l args (J ++ G) R) [hc : HChunk J H G] : YieldTo P w0 M l args H R := fun w m => h w (m.perm hc.perm)
theorem lookI {L : Slots} {t : Nat} {x y : Int} (h : Go.Sx.look L t = some (.int .i64 x)) (e : x = y) : Go.Sx.look L t = some (.int .i64 y) := e ▸ h
/-! ### loops in which ranges run, each of which leaves a deferred call -/
theorem GE_loopD {C : Cx} {k : List Item} {ι : Type} (m : ι → Nat) (L : ι → Slots) (D : ι → List Deferred) (H : ι → Items) (p : ι → Prop) {c : Code}
    (h : ∀ x, p x → (∀ y, p y → m y < m x → GE C (L y) (D y) (H y) (.inLoop c :: k)) → GE C (L x) (D x) (H x) (.code c :: .inLoop c :: k)) (x : ι) (hx : p x) :
    GE C (L x) (D x) (H x) (.code (.loop c) :: k) := by
  have key : ∀ n x, m x = n → p x → GE C (L x) (D x) (H x) (.code c :: .inLoop c :: k) := by
    intro n
    induction n using Nat.strongRecOn with
    | _ n ih =>
      intro x hn hx
      exact h x hx fun y hy hlt => GE_inLoop (ih (m y) (hn ▸ hlt) y rfl hy)
  exact fun a w s m' => E_loop (key _ x rfl hx a w s m')
def dq (qs : List Nat) : List Deferred := qs.map fun q => { target := .collected q, args := #[] }
def iq (qs : List Nat) : Items := qs.map fun q => (q, .deferred (some []))
instance HChunk.iqNil {H : Items} : HChunk (iq []) H H := ⟨.refl _⟩
instance HChunk.iqCons {q : Nat} {qs : List Nat} {H H1 H2 : Items} [h1 : HTake q H (.deferred (some [])) H1] [h2 : HChunk (iq qs) H1 H2] : HChunk (iq (q :: qs)) H H2 := ⟨h1.perm.trans (h2.perm.cons _)⟩
theorem EndOf_qs {P : Program} {fn : Func} {R : Value → World → Prop} {tmps : Array Value} {w0 : World} {M : Nat → Prop} {H : Items} (hR : ∀ w, SH w0 M H w → ∃ v, (results fn tmps).run P w = .ok v w ∧ R v w) : ∀ (qs : List Nat) (w : World), SH w0 M (iq qs ++ H) w → EndOf P fn R tmps (dq qs) w
  | [], w, m => hR w m
  | q :: qs, w, m => by
    have m1 : SH w0 M ((q, .deferred (some [])) :: (iq qs ++ H)) w := m
    refine ⟨(m1.item _ (List.mem_cons_self ..)).2, EndOf_qs hR qs _ ?_⟩
    exact (m1.set (.deferred none)).drop (fun p hp => List.mem_cons_of_mem _ hp) (by have := m1.nd; simp only [List.map_cons, List.nodup_cons] at this; exact this.2)
section
variable {P : Program} {hm : P.follows .mixedOrders = true} {f N : Nat} {w0 : World} {M : Nat → Prop} {R : Value → World → Prop} {L : Slots} {H H' : Items} {k : List Item} {fn : Func} {v : Value} {qs : List Nat}
theorem GE_retq [hc : HChunk (iq qs) H H'] (hf : P.funcs[f]? = some fn) (hv : RVs (cx P hm f N w0 M R) L H' fn.results v) (hR : ∀ w, SH (cx P hm f N w0 M R).w0 (cx P hm f N w0 M R).M H' w → R v w) : GE (cx P hm f N w0 M R) L (dq qs) H (.code .ret :: k) := by
  intro a w s m
  refine E_ret (b := base f) rfl rfl hf ?_
  rw [s.defers]
  exact EndOf_qs (fun w m => ⟨v, hv.run s m, hR w m⟩) qs w (m.perm hc.perm)
theorem GE_endq [hc : HChunk (iq qs) H H'] (hf : P.funcs[f]? = some fn) (hv : RVs (cx P hm f N w0 M R) L H' fn.results v) (hR : ∀ w, SH (cx P hm f N w0 M R).w0 (cx P hm f N w0 M R).M H' w → R v w) : GE (cx P hm f N w0 M R) L (dq qs) H [] := by
  intro a w s m
  refine E_nil (b := base f) rfl rfl hf ?_
  rw [s.defers]
  exact EndOf_qs (fun w m => ⟨v, hv.run s m, hR w m⟩) qs w (m.perm hc.perm)
end
theorem SH.hs {C : Cx} {H H' : Items} {w : World} (m : SH C.w0 C.M H w) (h : HS C H H') : SH C.w0 C.M H' w := h.sh w m
theorem GE_D {C : Cx} {L : Slots} {D D' : List Deferred} {H : Items} {k : List Item} (h : GE C L D' H k) (e : D = D') : GE C L D H k := e ▸ h
theorem HS.eq {C : Cx} {H X Y : Items} (h : HS C H X) (e : X = Y) : HS C H Y := e ▸ h
theorem V_isT {C : Cx} {L : Slots} {H : Items} {o : Oper} {p : Prop} [Decidable p] (h : OpV C L H o (.bool (decide p))) (hp : p) : OpV C L H o (.bool true) := by rw [decide_eq_true hp] at h; exact h
theorem V_isF {C : Cx} {L : Slots} {H : Items} {o : Oper} {p : Prop} [Decidable p] (h : OpV C L H o (.bool (decide p))) (hp : ¬ p) : OpV C L H o (.bool false) := by rw [decide_eq_false hp] at h; exact h
end Go.Sx
