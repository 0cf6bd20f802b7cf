/-
  Zeros that are appended: append(s, make([]T, n)...).
-/
import Derived.Test.YtdcjgjopmicidaaDoorSxJ
namespace Go.Sx
open Go.RowKit

section
variable {P : Program} (w : World)
theorem zeroCells_flat (z : Array Value) (n : Nat) : Builtin.zeroCells z n = ((List.replicate n z.toList).flatten).toArray := made_eq n z.size z (by simp)
theorem run_appendZ_zero (t tx ty e : TypeId) (i : TypeInfo) (ht : P.underlying t = some (.slice e)) (hk : P.underlying tx = some (.int .i64)) (hi : P.info? e = some i) (A : Option Addr) (n c : Nat) (hn : n ≤ c) :
    (Builtin.append_ #[t, tx] ty #[.slice A n c, .int .i64 0]).run P w = .ok (.slice A n c) w := by
  have hw : IntKind.i64.wrap 0 = 0 := wrap_i64 (by omega)
  cases A <;> simp [Builtin.append_, run_underlying ht, run_underlying hk, sizeOf, typeInfo, hi, asInt, asIntOf, hw, hn, storeCells]
theorem run_appendZ_nil (t tx ty e : TypeId) (i : TypeInfo) (z : Value) (ht : P.underlying t = some (.slice e)) (hk : P.underlying tx = some (.int .i64)) (hi : P.info? e = some i) (hz : i.zero = some z) (hsz : 0 < i.size)
    (n : Nat) (h0 : 0 < n) (h63 : (n : Int) ≤ 140737488355328) (h48 : n * i.bytes ≤ 281474976710656) :
    (Builtin.append_ #[t, tx] ty #[.slice none 0 0, .int .i64 n]).run P w =
      .ok (.slice (some ⟨w.heap.size, 0, none⟩) n (grownCap w n 0 e)) (w.drew.alloc (.cells (Builtin.zeroCells z.cells n ++ Builtin.zeroCells z.cells (grownCap w n 0 e - n)) e)) := by
  have hn : n ≠ 0 := by omega
  have hn2 : ¬ (n * i.size = 0) := by intro h; rcases Nat.mul_eq_zero.1 h with h | h <;> omega
  have h63' : ¬ (9223372036854775807 < (n : Int)) := by omega
  have h48' : ¬ (281474976710656 < Builtin.nextslicecap n 0 * i.bytes) := by rw [nextslicecap_zero h0]; omega
  have h48'' : ¬ (281474976710656 < (n : Int) * (i.bytes : Int)) := by
    have : ((n * i.bytes : Nat) : Int) ≤ 281474976710656 := by omega
    rw [Int.natCast_mul] at this; omega
  have hneg : ¬ ((n : Int) < 0) := by omega
  have hw : IntKind.i64.wrap (n : Int) = n := wrap_i64 (by omega)
  simp [Builtin.append_, run_underlying ht, run_underlying hk, sizeOf, typeInfo, zeroValue, hi, hz, asInt, asIntOf, hw, hn, hn2, h63', h48', h48'', hneg, Question.forced, run_firstCells_none, newRow, grownCap]
theorem run_appendZ_grow (t tx ty e : TypeId) (i : TypeInfo) (z : Value) (ht : P.underlying t = some (.slice e)) (hk : P.underlying tx = some (.int .i64)) (hi : P.info? e = some i) (hz : i.zero = some z) (hsz : 0 < i.size)
    (b : Addr) (sLen sCap : Nat) (olds : List Value) (hlo : olds.length = sLen * i.size) (holds : ∀ j v, olds[j]? = some v → w.cell? (b.add j) = some v)
    (n : Nat) (h0 : 0 < n) (hnb : (n : Int) ≤ 140737488355328) (h48n : n * i.bytes ≤ 281474976710656)
    (hg : sCap < sLen + n) (h63 : ((sLen + n : Nat) : Int) ≤ 9223372036854775807) (hfit : Builtin.nextslicecap (sLen + n) sCap * i.bytes ≤ 281474976710656) :
    (Builtin.append_ #[t, tx] ty #[.slice (some b) sLen sCap, .int .i64 n]).run P w =
      .ok (.slice (some ⟨w.heap.size, 0, none⟩) (sLen + n) (grownCap w (sLen + n) sCap e))
        (w.drew.alloc (.cells (olds.toArray ++ Builtin.zeroCells z.cells n ++ Builtin.zeroCells z.cells (grownCap w (sLen + n) sCap e - (sLen + n))) e)) := by
  have hn : ¬ (sLen + n ≤ sCap) := by omega
  have hn2 : ¬ (n * i.size = 0) := by intro h; rcases Nat.mul_eq_zero.1 h with h | h <;> omega
  have hn3 : n ≠ 0 := by omega
  have hn4 : i.size ≠ 0 := by omega
  have h63' : ¬ (9223372036854775807 < ((sLen : Int) + (n : Int))) := by omega
  have h48' : ¬ (281474976710656 < Builtin.nextslicecap (sLen + n) sCap * i.bytes) := by omega
  have h48'' : ¬ (281474976710656 < (n : Int) * (i.bytes : Int)) := by
    have : ((n * i.bytes : Nat) : Int) ≤ 281474976710656 := by omega
    rw [Int.natCast_mul] at this; omega
  have hneg : ¬ ((n : Int) < 0) := by omega
  have hw : IntKind.i64.wrap (n : Int) = n := wrap_i64 (by omega)
  have hfo := run_firstCells_some (P := P) w.drew i.size sLen b sLen sCap olds hlo (by simpa using holds)
  simp [Builtin.append_, run_underlying ht, run_underlying hk, sizeOf, typeInfo, zeroValue, hi, hz, asInt, asIntOf, hw, hn, hn3, hn4, h63', h48', h48'', hneg, Question.forced, hfo, newRow, grownCap]
  intro h; rcases Nat.mul_eq_zero.1 h with h | h <;> omega
theorem run_appendZ_room (t tx ty e : TypeId) (i : TypeInfo) (z : Value) (ht : P.underlying t = some (.slice e)) (hk : P.underlying tx = some (.int .i64)) (hi : P.info? e = some i) (hz : i.zero = some z) (hzs : z.cells.size = i.size) (hsz : 0 < i.size)
    (g sLen sCap : Nat) (cur : Array Value) (hg : w.heap[g]? = some (.cells cur e (0, 0))) (n : Nat) (h0 : 0 < n) (hnb : (n : Int) ≤ 140737488355328) (h48n : n * i.bytes ≤ 281474976710656) (h1 : ∀ u ∈ (Builtin.zeroCells z.cells n).toList, u.oneCell' = true)
    (hroom : sLen + n ≤ sCap) (hfit : sLen * i.size + n * i.size ≤ cur.size) :
    (Builtin.append_ #[t, tx] ty #[.slice (some ⟨g, 0, none⟩) sLen sCap, .int .i64 n]).run P w =
      .ok (.slice (some ⟨g, 0, none⟩) (sLen + n) sCap) (w.setRow g (cur.toList.take (sLen * i.size) ++ (Builtin.zeroCells z.cells n).toList ++ cur.toList.drop (sLen * i.size + n * i.size)).toArray) := by
  have hl : (Builtin.zeroCells z.cells n).toList.length = n * i.size := by rw [Array.length_toList, size_zeroCells, hzs]
  have hst := run_storeCells_at P g (sLen * i.size) e (Builtin.zeroCells z.cells n).toList 0 cur w hg (by rw [hl]; simpa using hfit) h1
  simp only [Nat.add_zero, hl] at hst
  have hn3 : n ≠ 0 := by omega
  have hn4 : i.size ≠ 0 := by omega
  have h48'' : ¬ (281474976710656 < (n : Int) * (i.bytes : Int)) := by
    have : ((n * i.bytes : Nat) : Int) ≤ 281474976710656 := by omega
    rw [Int.natCast_mul] at this; omega
  have hneg : ¬ ((n : Int) < 0) := by omega
  have hw : IntKind.i64.wrap (n : Int) = n := wrap_i64 (by omega)
  simp [Builtin.append_, run_underlying ht, run_underlying hk, sizeOf, typeInfo, zeroValue, hi, hz, asInt, asIntOf, hw, hn3, hn4, h48'', hneg, hroom, Addr.add_lit, hst]
  intro h; rcases Nat.mul_eq_zero.1 h with h | h <;> omega

theorem run_appendZ_own_at (t tx ty e : TypeId) (i : TypeInfo) (z : Value) (size bytes : Nat) (ht : P.underlying t = some (.slice e)) (hk : P.underlying tx = some (.int .i64)) (hi : P.info? e = some i) (hz : i.zero = some z)
    (hsize : i.size = size) (hby : i.bytes = bytes) (hzs : z.cells.size = size) (hsz : 0 < size) (v : Value) (n : Nat) (xs : List Value) (hown : w.ownsRow 0 e size v n xs)
    (m : Nat) (h0 : 0 < m) (h1 : ∀ u ∈ (Builtin.zeroCells z.cells m).toList, u.oneCell' = true) (h63 : n + m ≤ maxLen) (hbytes : (n + m) * bytes ≤ 140737488355328) (hnb : (m : Int) ≤ 140737488355328) :
    ∃ v' w', (Builtin.append_ #[t, tx] ty #[v, .int .i64 m]).run P w = .ok v' w' ∧ w'.ownsRow 0 e size v' (n + m) (xs ++ (Builtin.zeroCells z.cells m).toList) ∧ w.grownBy w' v.ownBlock ∧ (v'.ownBlock = v.ownBlock ∨ v'.ownBlock = some w.heap.size) := by
  subst hsize
  subst hby
  have hsmall : n + m ≤ 9223372036854775807 := by simp only [maxLen] at h63; omega
  have hl : (Builtin.zeroCells z.cells m).toList.length = m * i.size := by rw [Array.length_toList, size_zeroCells, hzs]
  have hlen : (xs ++ (Builtin.zeroCells z.cells m).toList).length = (n + m) * i.size := by rw [List.length_append, hown.1, hl, Nat.add_mul]
  have hmb : m * i.bytes ≤ 281474976710656 := by
    have := Nat.mul_le_mul_right i.bytes (show m ≤ n + m by omega); omega
  have grown : ∀ (old : Nat), ∀ (row : Option Nat),
      (w.drew.alloc (.cells (xs.toArray ++ Builtin.zeroCells z.cells m ++ Builtin.zeroCells z.cells (grownCap w (n + m) old e - (n + m))) e)).ownsRow 0 e i.size
        (.slice (some ⟨w.heap.size, 0, none⟩) (n + m) (grownCap w (n + m) old e)) (n + m) (xs ++ (Builtin.zeroCells z.cells m).toList) ∧
      w.grownBy (w.drew.alloc (.cells (xs.toArray ++ Builtin.zeroCells z.cells m ++ Builtin.zeroCells z.cells (grownCap w (n + m) old e - (n + m))) e)) row := by
    intro old row
    have hge := grownCap_ge w (n + m) old e
    have hcm : grownCap w (n + m) old e ≤ maxLen := grownCap_le_maxLen w (n + m) old e h63
    refine ⟨⟨hlen, .inr ⟨w.heap.size, _, _, rfl, Nat.zero_le _, heap_alloc_new w.drew _, hge, hcm, ?_, ?_⟩⟩, ⟨rfl, rfl, rfl, by simp, fun k hk _ => heap_alloc_old w.drew _ k hk⟩⟩
    · simp only [Array.size_append, List.size_toArray, size_zeroCells, hzs, hown.1, ← Nat.add_mul]
      congr 1
      omega
    · simp only [Array.toList_append, List.append_assoc]
      rw [← List.append_assoc, ← hlen]
      exact List.take_left
  rcases hown.2 with ⟨rfl, rfl⟩ | ⟨g, cap, cur, rfl, hbg, hg, hnc, hcm, hcs, htake⟩
  · have hx : xs = [] := List.eq_nil_of_length_eq_zero (by simpa using hown.1)
    subst hx
    have hr := run_appendZ_nil (P := P) w t tx ty e i z ht hk hi hz hsz m h0 hnb hmb
    have hgr := grown 0 (Value.ownBlock (.slice none 0 0))
    simp only [Nat.zero_add, List.nil_append, Array.empty_append] at hgr ⊢
    exact ⟨_, _, hr, hgr.1, hgr.2, Or.inr rfl⟩
  · by_cases hroom : n + m ≤ cap
    · have hfit : n * i.size + m * i.size ≤ cur.size := by rw [hcs, ← Nat.add_mul]; exact Nat.mul_le_mul_right _ hroom
      have hr := run_appendZ_room (P := P) w t tx ty e i z ht hk hi hz hzs hsz g n cap cur hg m h0 hnb hmb h1 hroom hfit
      refine ⟨_, _, hr, ⟨hlen, .inr ⟨g, cap, _, rfl, hbg, setRow_heap w g cur _ e _ hg, hroom, hcm, ?_, ?_⟩⟩, ⟨rfl, rfl, rfl, by simp, fun k _ hk => setRow_other w g k _ (fun e => hk (by simp [Value.ownBlock, e]))⟩, Or.inl rfl⟩
      · simp only [List.size_toArray, List.length_append, List.length_take, List.length_drop, Array.length_toList, size_zeroCells, hzs]
        omega
      · rw [htake, ← hlen]
        exact List.take_left
    · have holds : ∀ j u, xs[j]? = some u → w.cell? ((⟨g, 0, none⟩ : Addr).add j) = some u := hown.cells (g := g) rfl
      have hr := run_appendZ_grow (P := P) w t tx ty e i z ht hk hi hz hsz ⟨g, 0, none⟩ n cap xs hown.1 holds m h0 hnb hmb (by omega) (by omega) (growslice_fits (by omega) hbytes)
      have hgr := grown cap (Value.ownBlock (.slice (some ⟨g, 0, none⟩) n cap))
      exact ⟨_, _, hr, hgr.1, hgr.2, Or.inr rfl⟩
end

section
variable {α : Type} {sz e by_ : Nat} {enc : α → List Value} {l m : List α} {v v' : Value} {I H H1 : Items}
theorem own_row {w0 w : World} {M : Nat → Prop} (m0 : SH w0 M (I ++ H1) w) (hO : Own sz e enc l v I) (henc : ∀ x, (enc x).length = sz) : w.ownsRow 0 e sz v l.length (l.flatMap enc) := by
  have hfl := flat_len henc l
  refine ⟨hfl, ?_⟩
  rcases hO with ⟨hv, hl, _⟩ | ⟨g, c', rest, hv, hI, hr, hle, hcm⟩
  · subst hl; exact .inl ⟨hv, rfl⟩
  · subst hI
    have hit := (m0.item (g, blk (l.flatMap enc ++ rest) e) (by simp)).2
    refine .inr ⟨g, c', (l.flatMap enc ++ rest).toArray, hv, Nat.zero_le _, hit, hle, hcm, ?_, ?_⟩
    · simp only [List.size_toArray, List.length_append, hfl, hr]
      rw [← Nat.add_mul]; congr 1; omega
    · rw [List.toList_toArray, ← hfl]; simp
theorem own_after {w0 w w' : World} {M : Nat → Prop} (hM : SH w0 M H w) (m0 : SH w0 M (I ++ H1) w) (hO : Own sz e enc l v I) (hm0 : 0 < m.length)
    (hrow : w'.ownsRow 0 e sz v' (l.length + m.length) (l.flatMap enc ++ m.flatMap enc)) (hgr : w.grownBy w' v.ownBlock) (hat : v'.ownBlock = v.ownBlock ∨ v'.ownBlock = some w.heap.size) :
    ∃ I', Own sz e enc (l ++ m) v' I' ∧ SH w0 M (I' ++ H1) w' := by
  -- the others are as they were
  have hoth : ∀ p ∈ H1, some p.1 ≠ v.ownBlock := by
    intro p hp he
    rcases hO with ⟨hv, _, _⟩ | ⟨g, c', rest, hv, hI, _⟩
    · subst hv; simp [Value.ownBlock] at he
    · subst hv; subst hI
      simp only [Value.ownBlock, Option.some.injEq] at he
      have hnd := m0.nd
      simp only [List.cons_append, List.nil_append, List.map_cons, List.nodup_cons] at hnd
      exact hnd.1 (List.mem_map.2 ⟨p, hp, he⟩)
  have hold : ∀ k, k < w0.heap.size → ¬ M k → some k ≠ v.ownBlock := by
    intro k hk hMk he
    rcases hO with ⟨hv, _, _⟩ | ⟨g, c', rest, hv, hI, _⟩
    · subst hv; simp [Value.ownBlock] at he
    · subst hv; subst hI
      simp only [Value.ownBlock, Option.some.injEq] at he
      subst he
      rcases (m0.item (k, blk (l.flatMap enc ++ rest) e) (by simp)).1 with h | h
      · simp only at h; omega
      · exact hMk h
  rcases hrow.2 with ⟨_, hz⟩ | ⟨g, cap, cur, hv', _, hg, hnc, hcm, hcs, hct⟩
  · exfalso
    omega
  refine ⟨[(g, blk cur.toList e)], .inr ⟨g, cap, cur.toList.drop ((l.length + m.length) * sz), by rw [hv']; simp, ?_, ?_, by simpa using hnc, hcm⟩, ?_⟩
  · have : (l ++ m).flatMap enc ++ cur.toList.drop ((l.length + m.length) * sz) = cur.toList := by
      rw [List.flatMap_append, ← hct, List.take_append_drop]
    rw [this]
  · rw [List.length_drop, Array.length_toList, hcs, List.length_append, Nat.sub_mul]
  · have hgb : some g = v.ownBlock ∨ g = w.heap.size := by
      rw [hv'] at hat
      simp only [Value.ownBlock, Option.some.injEq] at hat
      exact hat
    refine ⟨hgr.os.trans hM.os, hgr.tape.trans hM.tape, hgr.output.trans hM.output, Nat.le_trans hM.size hgr.size, fun k hk hMk => ?_, ?_, ?_⟩
    · rw [hgr.block k (Nat.lt_of_lt_of_le hk hM.size) (hold k hk hMk)]
      exact hM.old k hk hMk
    · intro p hp
      rcases List.mem_cons.1 hp with rfl | hp
      · refine ⟨?_, by simpa using hg⟩
        rcases hgb with hgb | hgb
        · rcases hO with ⟨hv, _, _⟩ | ⟨g2, c', rest, hv, hI, _⟩
          · subst hv; simp [Value.ownBlock] at hgb
          · subst hv; subst hI
            simp only [Value.ownBlock, Option.some.injEq] at hgb
            subst hgb
            exact (m0.item (g, blk (l.flatMap enc ++ rest) e) (by simp)).1
        · exact .inl (by simp only [hgb]; exact hM.size)
      · obtain ⟨h1, h2⟩ := m0.item p (List.mem_append_right _ hp)
        exact ⟨h1, by rw [hgr.block p.1 (m0.lt (List.mem_append_right _ hp)) (hoth p hp)]; exact h2⟩
    · simp only [List.cons_append, List.nil_append, List.map_cons, List.nodup_cons]
      have hnd := m0.nd
      rw [List.map_append, List.nodup_append] at hnd
      refine ⟨fun hm2 => ?_, hnd.2.1⟩
      obtain ⟨p, hp, he⟩ := List.mem_map.1 hm2
      rcases hgb with hgb | hgb
      · exact hoth p hp (by rw [he]; exact hgb)
      · have := m0.lt (List.mem_append_right I hp)
        omega
end
section
variable {C : Cx} {L : Slots} {D : List Deferred} {H : Items} {k : List Item} {ops : Array Oper} {i d : Nat} {o : Oper} {n : Tr} {pend : List Nat}
variable {α : Type} {sz e by_ : Nat} {enc : α → List Value} {l : List α} {v : Value} {I H1 : Items}
theorem GT_appendZ {t tx q : Nat} {zz : Int} {s x : Operand} {z : List Value} {x0 : α} [hc : HChunk I H H1] (ho : opAt ops i = some o) (hop : o.op = .call { callee := .builtin .append, args := #[s, x], argTypes := #[t, tx] }) (hg : o.guard = none) (hd : o.dst = some d) (hN : Nat.blt d C.N = true)
    (hs : ev L s = some v) (hx : ev L x = some (.int .i64 zz)) (hq : zz = (q : Int)) (hO : Own sz e enc l v I)
    (ht : C.P.underlying t = some (.slice e)) (htx : C.P.underlying tx = some (.int .i64)) (hz : zcOf C.P e = some z) (hsz : szOf C.P e = some sz) (hzl : z.length = sz ∧ 0 < sz) (hby : byOf C.P e = some by_) (hb : (l.length + q) * by_ ≤ 140737488355328 ∧ l.length + q ≤ 140737488355328)
    (henc : ∀ x, (enc x).length = sz) (h1 : ∀ x, ∀ u ∈ enc x, u.oneCell' = true) (h0 : enc x0 = z)
    (hp : ∀ A' c' I', Own sz e enc (l ++ List.replicate q x0) (.slice A' (l ++ List.replicate q x0).length c') I' → GR C ops ((d, .slice A' (l ++ List.replicate q x0).length c') :: L) D (I' ++ H1) pend)
    (h : ∀ A' c' I', Own sz e enc (l ++ List.replicate q x0) (.slice A' (l ++ List.replicate q x0).length c') I' → GT C ops k ((d, .slice A' (l ++ List.replicate q x0).length c') :: L) D (I' ++ H1) n) : GT C ops k L D H (.ld i pend n) := by
  refine GT_ld ho hg (by simp [Oper.isDefer, hop]) fun a w st mm => ?_
  subst hq
  obtain ⟨z0, hz0, rfl⟩ := Option.map_eq_some_iff.1 hz
  obtain ⟨inf, hi, hzz⟩ := Option.bind_eq_some_iff.1 hz0
  obtain ⟨inf', hi', hsz'⟩ := Option.map_eq_some_iff.1 hsz
  obtain ⟨inf'', hi'', hbb⟩ := Option.map_eq_some_iff.1 hby
  rw [hi] at hi' hi''; cases hi'; cases hi''
  have m0 := mm.perm hc.perm
  have key : ∃ v' I' w', (Builtin.append_ #[t, tx] o.type #[v, .int .i64 q]).run C.P w = .ok v' w' ∧ Own sz e enc (l ++ List.replicate q x0) v' I' ∧ SH C.w0 C.M (I' ++ H1) w' := by
    rcases Nat.eq_zero_or_pos q with hq0 | hq0
    · subst hq0
      obtain ⟨A', c', hv, hle⟩ := hO.form
      refine ⟨v, I, w, ?_, by simpa using hO, m0⟩
      rw [hv]
      exact run_appendZ_zero w t tx o.type e inf ht htx hi A' l.length c' hle
    · have hrow := own_row m0 hO henc
      have hzf : (Builtin.zeroCells z0.cells q).toList = (List.replicate q x0).flatMap enc := by
        rw [zeroCells_flat, List.flatMap_def, List.map_replicate, h0]
      obtain ⟨v', w', hrun, hr2, hgr, hat⟩ := run_appendZ_own_at (P := C.P) w t tx o.type e inf z0 sz by_ ht htx hi hzz hsz' hbb (by simpa using hzl.1) hzl.2 v l.length (l.flatMap enc) hrow q hq0
        (fun u hu => by rw [hzf] at hu; obtain ⟨x, _, hx⟩ := List.mem_flatMap.1 hu; exact h1 x u hx) (by simp only [maxLen]; omega) hb.1 (by omega)
      rw [hzf] at hr2
      obtain ⟨I', hO', m'⟩ := own_after (m := List.replicate q x0) mm m0 hO (by simpa using hq0) (by simpa using hr2) hgr hat
      exact ⟨v', I', w', hrun, hO', m'⟩
  obtain ⟨v', I', w', hrun, hO', m'⟩ := key
  have e1 : (execOp a.eval o).run C.P w = .ok (.value v') w' := by
    simp [execOp, hop, resolve, invoke, builtin, st.eval hs, st.eval hx, hrun]
  rw [e1]
  obtain ⟨A', c', rfl, _⟩ := hO'.form
  exact ⟨_, _, by rw [hd]; exact st.put hN _, m', hp _ _ _ hO', h _ _ _ hO'⟩
end
end Go.Sx
