/- Texts of this proof, one behind the other: SxL, SxM, SxN. -/
import Derived.Test.YtpbflnfcgcldkaaGreatDoorMt11
import Derived.Laws.IdiomStrings
/-
  Bytes and strings: []byte(s), string(b), append(b, s...).
-/
namespace Go.Sx
open Go.RowKit
def eU (x : UInt8) : List Value := [.int .u8 x.toNat]
theorem eU_len (x : UInt8) : (eU x).length = 1 := rfl
theorem eU_one : ∀ x, ∀ u ∈ eU x, u.oneCell' = true := by intro x u hu; simp only [eU, List.mem_singleton] at hu; subst hu; rfl
theorem flat_eU (l : List UInt8) : l.flatMap eU = l.map fun b => Value.int .u8 b.toNat := by
  induction l with
  | nil => rfl
  | cons x l ih => rw [List.flatMap_cons, ih]; rfl
abbrev stz (l : List UInt8) : ByteArray := ⟨l.toArray⟩
abbrev byz (s : ByteArray) : List UInt8 := s.data.toList
theorem byz_len (s : ByteArray) : (byz s).length = s.size := Array.length_toList
theorem byz_stz (l : List UInt8) : byz (stz l) = l := by simp [byz]
theorem stz_byz (s : ByteArray) : stz (byz s) = s := by simp [byz, stz]
theorem stz_inj {l m : List UInt8} : stz l = stz m ↔ l = m := ⟨fun h => by rw [← byz_stz l, h, byz_stz], fun h => by rw [h]⟩
section
variable {C : Cx} {L : Slots} {H : Items} {o : Oper} {t t' e : TypeId} {x : Operand}
end
def RowB (e : TypeId) (l : List UInt8) (b : Nat) (I : Items) : Prop := ∃ rest fr, I = [(b, .cells (l.flatMap eU ++ rest).toArray e fr)]
theorem RowB.rd {e b : Nat} {l : List UInt8} {I H H1 : Items} {w0 w : World} {M : Nat → Prop} (h : RowB e l b I) [hc : HChunk I H H1] (m : SH w0 M H w) : RdL w 1 eU (some ⟨b, 0, none⟩) l := by
  obtain ⟨rest, fr, rfl⟩ := h
  exact RdL.own (rest := rest) (m.perm hc.perm) eU_len
section
variable {C : Cx} {L : Slots} {D : List Deferred} {H : Items} {k : List Item} {ops : Array Oper} {i d : Nat} {o : Oper} {n : Tr} {pend : List Nat}
theorem GT_strBytes {t t' e : Nat} {x : Operand} {s : ByteArray} (ho : opAt ops i = some o) (hop : o.op = .convert t t' x) (hg : o.guard = none) (hd : o.dst = some d) (hN : Nat.blt d C.N = true) (hx : ev L x = some (.string s)) (ht : C.P.underlying t = some .string) (ht' : C.P.underlying t' = some (.slice e)) (he : C.P.underlying e = some (.int .u8))
    (hp : ∀ b c I, RowB e (byz s) b I → GR C ops ((d, .slice (some ⟨b, 0, none⟩) (byz s).length c) :: L) D (I ++ H) pend)
    (h : ∀ b c I, RowB e (byz s) b I → GT C ops k ((d, .slice (some ⟨b, 0, none⟩) (byz s).length c) :: L) D (I ++ H) n) : GT C ops k L D H (.ld i pend n) := by
  refine GT_ld ho hg (by simp [Oper.isDefer, hop]) fun a w st m => ?_
  have hrun := run_bytes_of_string (P := C.P) w t t' e s ht ht' he
  generalize grownCap w s.size 0 e = cap at hrun
  have e1 : (execOp a.eval o).run C.P w = .ok (.value (.slice (some ⟨w.heap.size, 0, none⟩) (byz s).length cap)) (w.drew.alloc (.cells (bytesRow s cap) e ((bytesRow s cap).size, (bytesRow s cap).size + 1))) := by
    rw [byz_len]
    simp [execOp, hop, st.eval hx, hrun]
  rw [e1]
  have hrow : RowB e (byz s) w.heap.size [(w.heap.size, .cells (bytesRow s cap) e ((bytesRow s cap).size, (bytesRow s cap).size + 1))] := by
    refine ⟨(List.replicate (cap - s.size) (Value.int .u8 0)), ((bytesRow s cap).size, (bytesRow s cap).size + 1), ?_⟩
    have : bytesRow s cap = ((byz s).flatMap eU ++ List.replicate (cap - s.size) (Value.int .u8 0)).toArray := by
      apply Array.toList_inj.1
      simp [bytesRow, byz, flat_eU]
    rw [this]
  have m' : SH C.w0 C.M ([(w.heap.size, .cells (bytesRow s cap) e ((bytesRow s cap).size, (bytesRow s cap).size + 1))] ++ H) (w.drew.alloc (.cells (bytesRow s cap) e ((bytesRow s cap).size, (bytesRow s cap).size + 1))) := by
    have := (m.drew).alloc (.cells (bytesRow s cap) e ((bytesRow s cap).size, (bytesRow s cap).size + 1))
    exact this
  exact ⟨_, _, by rw [hd]; exact st.put hN _, m', hp _ _ _ hrow, h _ _ _ hrow⟩
end
/-! ### append(b, s...) -/
section
variable {P : Program} (w : World)
def scells (s : ByteArray) : List Value := (byz s).flatMap eU
theorem scells_len (s : ByteArray) : (scells s).length = s.size := by rw [scells, flat_eU, List.length_map, byz_len]
theorem scells_eq (s : ByteArray) : (Array.map (fun b => Value.int .u8 b.toNat) s.data).extract 0 s.size = (scells s).toArray := by
  rw [scells, flat_eU]
  apply Array.toList_inj.1
  show ((Array.map (fun b => Value.int .u8 b.toNat) s.data).extract 0 s.data.size).toList = _
  simp only [byz, Array.toList_extract, Array.toList_map, List.extract_eq_take_drop, List.drop_zero, Nat.sub_zero]
  exact List.take_of_length_le (by rw [List.length_map, Array.length_toList]; exact Nat.le_refl _)
theorem scells_map (s : ByteArray) : Array.map (fun b => Value.int .u8 b.toNat) s.data = (scells s).toArray := by
  rw [scells, flat_eU]
  apply Array.toList_inj.1
  simp [byz]
theorem run_firstS (k : Nat) (s : ByteArray) : (Builtin.firstCells k s.size (.string s)).run P w = .ok (scells s).toArray w := by
  simp [Builtin.firstCells, scells_map]
theorem run_appendS_zero (t tx ty e : TypeId) (i : TypeInfo) (ht : P.underlying t = some (.slice e)) (hk : P.underlying tx = some .string) (hi : P.info? e = some i) (s : ByteArray) (h0 : s.size = 0) (A : Option Addr) (n c : Nat) (hn : n ≤ c) :
    (Builtin.append_ #[t, tx] ty #[.slice A n c, .string s]).run P w = .ok (.slice A n c) w := by
  cases A <;> simp [Builtin.append_, run_underlying ht, run_underlying hk, sizeOf, typeInfo, hi, Builtin.lenOf, Builtin.firstCells, h0, hn, storeCells]
theorem run_appendS_nil (t tx ty e : TypeId) (i : TypeInfo) (z : Value) (ht : P.underlying t = some (.slice e)) (hk : P.underlying tx = some .string) (hi : P.info? e = some i) (hz : i.zero = some z) (hb1 : i.bytes = 1)
    (s : ByteArray) (h0 : 0 < s.size) (h63 : (s.size : Int) ≤ 140737488355328) :
    (Builtin.append_ #[t, tx] ty #[.slice none 0 0, .string s]).run P w =
      .ok (.slice (some ⟨w.heap.size, 0, none⟩) s.size (grownCap w s.size 0 e)) (w.drew.alloc (.cells ((scells s).toArray ++ Builtin.zeroCells z.cells (grownCap w s.size 0 e - s.size)) e)) := by
  have hn : s.size ≠ 0 := by omega
  have h63' : ¬ (9223372036854775807 < (s.size : Int)) := by omega
  have h48' : ¬ (281474976710656 < Builtin.nextslicecap s.size 0) := by rw [nextslicecap_zero h0]; omega
  simp [Builtin.append_, run_underlying ht, run_underlying hk, sizeOf, typeInfo, zeroValue, hi, hz, hb1, Builtin.lenOf, Builtin.firstCells, scells_eq, hn, h63', h48', Question.forced, newRow, grownCap]
theorem run_appendS_grow (t tx ty e : TypeId) (i : TypeInfo) (z : Value) (ht : P.underlying t = some (.slice e)) (hk : P.underlying tx = some .string) (hi : P.info? e = some i) (hz : i.zero = some z) (hb1 : i.bytes = 1) (hs1 : i.size = 1)
    (b : Addr) (sLen sCap : Nat) (olds : List Value) (hlo : olds.length = sLen) (holds : ∀ j v, olds[j]? = some v → w.cell? (b.add j) = some v)
    (s : ByteArray) (hg : sCap < sLen + s.size) (h63 : ((sLen + s.size : Nat) : Int) ≤ 9223372036854775807) (hfit : Builtin.nextslicecap (sLen + s.size) sCap ≤ 281474976710656) :
    (Builtin.append_ #[t, tx] ty #[.slice (some b) sLen sCap, .string s]).run P w =
      .ok (.slice (some ⟨w.heap.size, 0, none⟩) (sLen + s.size) (grownCap w (sLen + s.size) sCap e))
        (w.drew.alloc (.cells (olds.toArray ++ (scells s).toArray ++ Builtin.zeroCells z.cells (grownCap w (sLen + s.size) sCap e - (sLen + s.size))) e)) := by
  have hn : ¬ (sLen + s.size ≤ sCap) := by omega
  have h63' : ¬ (9223372036854775807 < ((sLen : Int) + (s.size : Int))) := by omega
  have h48' : ¬ (281474976710656 < Builtin.nextslicecap (sLen + s.size) sCap) := by omega
  have hfo := run_firstCells_some (P := P) w.drew 1 sLen b sLen sCap olds (by simpa using hlo) (by simpa using holds)
  simp [Builtin.append_, run_underlying ht, run_underlying hk, sizeOf, typeInfo, zeroValue, hi, hz, hb1, hs1, Builtin.lenOf, hn, h63', h48', Question.forced, hfo, run_firstS, newRow, grownCap]
  have e5 : olds.toArray ++ (scells s).toArray = (olds ++ scells s).toArray := by simp
  rw [← Array.append_assoc, e5]
theorem run_appendS_room (t tx ty e : TypeId) (i : TypeInfo) (ht : P.underlying t = some (.slice e)) (hk : P.underlying tx = some .string) (hi : P.info? e = some i) (hs1 : i.size = 1)
    (g sLen sCap : Nat) (cur : Array Value) (hg : w.heap[g]? = some (.cells cur e (0, 0))) (s : ByteArray)
    (hroom : sLen + s.size ≤ sCap) (hfit : sLen + s.size ≤ cur.size) :
    (Builtin.append_ #[t, tx] ty #[.slice (some ⟨g, 0, none⟩) sLen sCap, .string s]).run P w =
      .ok (.slice (some ⟨g, 0, none⟩) (sLen + s.size) sCap) (w.setRow g (cur.toList.take sLen ++ scells s ++ cur.toList.drop (sLen + s.size)).toArray) := by
  have hst := run_storeCells_at P g sLen e (scells s) 0 cur w hg (by rw [scells_len]; simpa using hfit) (fun u hu => by obtain ⟨x, _, hx⟩ := List.mem_flatMap.1 hu; exact eU_one x u hx)
  simp only [Nat.add_zero, scells_len] at hst
  simp [Builtin.append_, run_underlying ht, run_underlying hk, sizeOf, typeInfo, hi, hs1, Builtin.lenOf, Builtin.firstCells, scells_eq, hroom, Addr.add_lit, hst]
theorem run_appendS_own_at (t tx ty e : TypeId) (i : TypeInfo) (z : Value) (ht : P.underlying t = some (.slice e)) (hk : P.underlying tx = some .string) (hi : P.info? e = some i) (hz : i.zero = some z)
    (hs1 : i.size = 1) (hb1 : i.bytes = 1) (hzs : z.cells.size = 1) (v : Value) (n : Nat) (xs : List Value) (hown : w.ownsRow 0 e 1 v n xs)
    (s : ByteArray) (h0 : 0 < s.size) (h63 : n + s.size ≤ maxLen) (hbytes : n + s.size ≤ 140737488355328) :
    ∃ v' w', (Builtin.append_ #[t, tx] ty #[v, .string s]).run P w = .ok v' w' ∧ w'.ownsRow 0 e 1 v' (n + s.size) (xs ++ scells s) ∧ w.grownBy w' v.ownBlock ∧ (v'.ownBlock = v.ownBlock ∨ v'.ownBlock = some w.heap.size) := by
  have hl := scells_len s
  have hxl : xs.length = n := by have := hown.1; omega
  have hlen : (xs ++ scells s).length = (n + s.size) * 1 := by rw [List.length_append, hxl, hl, Nat.mul_one]
  have grown : ∀ (old : Nat), ∀ (row : Option Nat),
      (w.drew.alloc (.cells (xs.toArray ++ (scells s).toArray ++ Builtin.zeroCells z.cells (grownCap w (n + s.size) old e - (n + s.size))) e)).ownsRow 0 e 1
        (.slice (some ⟨w.heap.size, 0, none⟩) (n + s.size) (grownCap w (n + s.size) old e)) (n + s.size) (xs ++ scells s) ∧
      w.grownBy (w.drew.alloc (.cells (xs.toArray ++ (scells s).toArray ++ Builtin.zeroCells z.cells (grownCap w (n + s.size) old e - (n + s.size))) e)) row := by
    intro old row
    have hge := grownCap_ge w (n + s.size) old e
    have hcm : grownCap w (n + s.size) old e ≤ maxLen := grownCap_le_maxLen w (n + s.size) old e h63
    refine ⟨⟨hlen, .inr ⟨w.heap.size, _, _, rfl, Nat.zero_le _, heap_alloc_new w.drew _, hge, hcm, ?_, ?_⟩⟩, ⟨rfl, rfl, rfl, by simp, fun k hk _ => heap_alloc_old w.drew _ k hk⟩⟩
    · simp only [Array.size_append, List.size_toArray, size_zeroCells, hzs, hl, hxl]
      omega
    · simp only [Array.toList_append, List.append_assoc]
      rw [← List.append_assoc, ← hlen]
      exact List.take_left
  rcases hown.2 with ⟨rfl, rfl⟩ | ⟨g, cap, cur, rfl, hbg, hg, hnc, hcm, hcs, htake⟩
  · have hx : xs = [] := List.eq_nil_of_length_eq_zero hxl
    subst hx
    have hr := run_appendS_nil (P := P) w t tx ty e i z ht hk hi hz hb1 s h0 (by omega)
    have hgr := grown 0 (Value.ownBlock (.slice none 0 0))
    simp only [Nat.zero_add, List.nil_append, Array.empty_append] at hgr ⊢
    exact ⟨_, _, hr, hgr.1, hgr.2, Or.inr rfl⟩
  · by_cases hroom : n + s.size ≤ cap
    · have hr := run_appendS_room (P := P) w t tx ty e i ht hk hi hs1 g n cap cur hg s hroom (by rw [hcs]; omega)
      refine ⟨_, _, hr, ⟨hlen, .inr ⟨g, cap, _, rfl, hbg, setRow_heap w g cur _ e _ hg, hroom, hcm, ?_, ?_⟩⟩, ⟨rfl, rfl, rfl, by simp, fun k _ hk => setRow_other w g k _ (fun e => hk (by simp [Value.ownBlock, e]))⟩, Or.inl rfl⟩
      · simp only [List.size_toArray, List.length_append, List.length_take, List.length_drop, Array.length_toList, hl]
        omega
      · have ht2 : cur.toList.take n = xs := by rw [← htake, Nat.mul_one]
        rw [ht2, ← hlen]
        exact List.take_left
    · have holds : ∀ j u, xs[j]? = some u → w.cell? ((⟨g, 0, none⟩ : Addr).add j) = some u := hown.cells (g := g) rfl
      have hr := run_appendS_grow (P := P) w t tx ty e i z ht hk hi hz hb1 hs1 ⟨g, 0, none⟩ n cap xs hxl holds s (by omega) (by omega) (by have := growslice_fits (need := n + s.size) (old := cap) (bytes := 1) (by omega) (by omega); omega)
      have hgr := grown cap (Value.ownBlock (.slice (some ⟨g, 0, none⟩) n cap))
      exact ⟨_, _, hr, hgr.1, hgr.2, Or.inr rfl⟩
end
section
variable {C : Cx} {L : Slots} {D : List Deferred} {H : Items} {k : List Item} {ops : Array Oper} {i d : Nat} {o : Oper} {n : Tr} {pend : List Nat}
variable {e : Nat} {l : List UInt8} {v : Value} {I H1 : Items}
theorem GT_appendS {t tx : Nat} {s : ByteArray} {y x : Operand} {z : List Value} [hc : HChunk I H H1] (ho : opAt ops i = some o) (hop : o.op = .call { callee := .builtin .append, args := #[y, x], argTypes := #[t, tx] }) (hg : o.guard = none) (hd : o.dst = some d) (hN : Nat.blt d C.N = true)
    (hs : ev L y = some v) (hx : ev L x = some (.string s)) (hO : Own 1 e eU l v I)
    (ht : C.P.underlying t = some (.slice e)) (htx : C.P.underlying tx = some .string) (hz : zcOf C.P e = some z) (hsz : szOf C.P e = some 1) (hzl : z.length = 1) (hby : byOf C.P e = some 1) (hb : l.length + s.size ≤ 140737488355328)
    (hp : ∀ A' c' I', Own 1 e eU (l ++ byz s) (.slice A' (l ++ byz s).length c') I' → GR C ops ((d, .slice A' (l ++ byz s).length c') :: L) D (I' ++ H1) pend)
    (h : ∀ A' c' I', Own 1 e eU (l ++ byz s) (.slice A' (l ++ byz s).length c') I' → GT C ops k ((d, .slice A' (l ++ byz s).length c') :: L) D (I' ++ H1) n) : GT C ops k L D H (.ld i pend n) := by
  refine GT_ld ho hg (by simp [Oper.isDefer, hop]) fun a w st mm => ?_
  obtain ⟨z0, hz0, rfl⟩ := Option.map_eq_some_iff.1 hz
  obtain ⟨inf, hi, hzz⟩ := Option.bind_eq_some_iff.1 hz0
  obtain ⟨inf', hi', hsz'⟩ := Option.map_eq_some_iff.1 hsz
  obtain ⟨inf'', hi'', hbb⟩ := Option.map_eq_some_iff.1 hby
  rw [hi] at hi' hi''; cases hi'; cases hi''
  have m0 := mm.perm hc.perm
  have key : ∃ v' I' w', (Builtin.append_ #[t, tx] o.type #[v, .string s]).run C.P w = .ok v' w' ∧ Own 1 e eU (l ++ byz s) v' I' ∧ SH C.w0 C.M (I' ++ H1) w' := by
    rcases Nat.eq_zero_or_pos s.size with hq0 | hq0
    · obtain ⟨A', c', hv, hle⟩ := hO.form
      have : byz s = [] := List.eq_nil_of_length_eq_zero ((byz_len s).trans hq0)
      refine ⟨v, I, w, ?_, by rw [this]; simpa using hO, m0⟩
      rw [hv]
      exact run_appendS_zero w t tx o.type e inf ht htx hi s hq0 A' l.length c' hle
    · have hrow := own_row m0 hO eU_len
      obtain ⟨v', w', hrun, hr2, hgr, hat⟩ := run_appendS_own_at (P := C.P) w t tx o.type e inf z0 ht htx hi hzz hsz' hbb (by simpa using hzl) v l.length (l.flatMap eU) hrow s hq0 (by simp only [maxLen]; omega) hb
      obtain ⟨I', hO', m'⟩ := own_after (m := byz s) mm m0 hO (by rw [byz_len]; exact hq0) (by rw [byz_len]; exact hr2) hgr hat
      exact ⟨v', I', w', hrun, hO', m'⟩
  obtain ⟨v', I', w', hrun, hO', m'⟩ := key
  have e1 : (execOp a.eval o).run C.P w = .ok (.value v') w' := by
    simp [execOp, hop, resolve, invoke, builtin, st.eval hs, st.eval hx, hrun]
  rw [e1]
  obtain ⟨A', c', rfl, _⟩ := hO'.form
  exact ⟨_, _, by rw [hd]; exact st.put hN _, m', hp _ _ _ hO', h _ _ _ hO'⟩
end
end Go.Sx
/-
  Shifts to the left, and the bits of two numbers.
-/
namespace Go.Sx
open Go.RowKit
section
variable {C : Cx} {L : Slots} {H : Items} {o : Oper} {t t' : TypeId} {x y : Operand}
theorem V_shl {k yk : IntKind} {a z : Int} {s : Nat} (ho : o.op = .binOp .shl t x y t') (hx : ev L x = some (.int k a)) (hy : ev L y = some (.int yk s)) (hs : s ≤ k.bits) (hz : k.wrap (a * 2 ^ s) = z) : OpV C L H o (.int k z) := fun D act w st m => by
  have h1 : min s k.bits = s := Nat.min_eq_left hs
  have h0 : ¬ ((s : Int) < 0) := by omega
  simp [execOp, ho, st.eval hx, st.eval hy, eqGuard, binOp, Op.shift, h1, h0, hz]
end
section
variable {C : Cx} {L : Slots} {D : List Deferred} {H : Items} {k : List Item} {ops : Array Oper} {i d : Nat} {o : Oper} {n : Tr} {pend : List Nat}
end
end Go.Sx
/-
  s[lo:hi] of a list.
-/
namespace Go.Sx
open Go.RowKit
section
variable {C : Cx} {L : Slots} {H : Items} {o : Oper} {t e sz c : Nat} {x y z : Operand} {A : Option Addr} {kd kz : IntKind}
end
end Go.Sx
