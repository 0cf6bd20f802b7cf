/- Texts of this proof, one behind the other: Sx5, Sx6. -/
import Derived.Test.YtncleikbggjmjaaGreatDoorMt7
import Derived.Laws.MakeOwn
/-
  More of the same: structs that are built, slices that are made, calls whose outcome is one value.
-/
namespace Go.Sx
open Go.RowKit
def Con0 (P : Program) (f : FuncId) (args : List Value) (w : World) (v : Value) : Prop := Ret P f args.toArray w fun v' w' => v' = v ∧ SH w none' [] w'
def Con {ι : Type} (P : Program) (f : FuncId) (args : List Value) (w : World) (p : ι → Prop) (V : ι → Value) (Hn : ι → Items) : Prop :=
  Ret P f args.toArray w fun v w' => ∃ x, p x ∧ v = V x ∧ SH w none' (Hn x) w'
theorem SH.nil {w0 : World} {M : Nat → Prop} {H : Items} {w : World} (h : SH w0 M H w) : SH w0 M [] w := h.drop (fun p hp => by cases hp) (by simp)
theorem SH.to {w0 : World} {M : Nat → Prop} {H H' : Items} {w : World} (h : SH w0 M H w) (hs : ∃ R, List.Perm H (H' ++ R)) : SH w0 M H' w := by
  obtain ⟨R, hR⟩ := hs
  have := h.perm hR
  exact this.drop (fun p hp => List.mem_append_left _ hp) (by have := this.nd; rw [List.map_append] at this; exact (List.nodup_append.1 this).1)
section
variable {C : Cx} {L : Slots} {D : List Deferred} {H : Items} {k : List Item} {ops : Array Oper} {i d : Nat} {o : Oper} {n : Tr} {pend : List Nat}
theorem GE_cut {ι : Type} {x y : Code} (L' : ι → Slots) (H' : ι → Items) (p : ι → Prop) (h1 : ∀ x, p x → GE C (L' x) D (H' x) (.code y :: k))
    (h2 : (∀ x, p x → GE C (L' x) D (H' x) (.code y :: k)) → GE C L D H (.code x :: .code y :: k)) : GE C L D H (.code (.seq x y) :: k) := GE_seq (h2 h1)
theorem GT_call0 {v : Value} {f : Operand} {args : Array Operand} {ts : Array TypeId} {fi : FuncId} {fs cs : Array Value} {vs args' : List Value}
    (ho : opAt ops i = some o) (hop : o.op = .call { callee := .value f, args := args, argTypes := ts }) (hg : o.guard = none) (hd : o.dst = some d) (hN : Nat.blt d C.N = true)
    (hf : ev L f = some (.func (.func fi) fs cs)) (ha : evs L args.toList = some vs) (he : fs.toList ++ vs ++ cs.toList = args') (hb : runs C.P fi = true)
    (hc : ∀ w, SH C.w0 C.M H w → Con0 C.P fi args' w v) (hp : GR C ops ((d, v) :: L) D H pend) (h : GT C ops k ((d, v) :: L) D H n) : GT C ops k L D H (.ld i pend n) :=
  GT_call (ι := Unit) (Hn := fun _ => []) (V := fun _ => v) (p := fun _ => True) ho hop hg hd hN hf ha he hb (fun w m => (hc w m).mono fun _ _ ⟨e, m'⟩ => ⟨(), trivial, e, m'⟩) (fun _ _ => hp) (fun _ _ => h)
theorem GT_call_g {ι : Type} {Hn : ι → Items} {V : ι → Value} {p : ι → Prop} {f : Operand} {args : Array Operand} {ts : Array TypeId} {fi : FuncId} {fs cs : Array Value} {vs args' : List Value}
    {j dj : Nat} {g : Bool} {oj : Oper} (ho : opAt ops i = some o) (hop : o.op = .call { callee := .value f, args := args, argTypes := ts }) (hg : o.guard = some (j, g)) (hj : opAt ops j = some oj) (hdj : oj.dst = some dj) (hl : look L dj = some (.bool g)) (hd : o.dst = some d) (hN : Nat.blt d C.N = true)
    (hf : ev L f = some (.func (.func fi) fs cs)) (ha : evs L args.toList = some vs) (he : fs.toList ++ vs ++ cs.toList = args') (hb : runs C.P fi = true)
    (hc : ∀ w, SH C.w0 C.M H w → Ret C.P fi args'.toArray w fun v w' => ∃ x, p x ∧ v = V x ∧ SH w none' (Hn x) w')
    (hp : ∀ x, p x → GR C ops ((d, V x) :: L) D (Hn x ++ H) pend) (h : ∀ x, p x → GT C ops k ((d, V x) :: L) D (Hn x ++ H) n) : GT C ops k L D H (.ld i pend n) := by
  refine GT_ld_g ho hg hj hdj hl (by simp [Oper.isDefer, hop]) fun a w s m => ?_
  obtain ⟨fn, c, hfn, hbody, hname⟩ := runs_of hb
  have e0 : args.map a.eval = vs.toArray := by
    have := s.evals ha
    rw [← this]; obtain ⟨l⟩ := args; simp
  have e1 : fs ++ vs.toArray ++ cs = args'.toArray := by rw [← he]; simp
  have e : (execOp a.eval o).run C.P w = .ok (.enter fi args'.toArray) w := by
    simp [execOp, hop, resolve, s.eval hf, Deferred.ofValue, invoke, callFunc, hfn, hbody, hname, e0, e1]
  rw [e]
  exact (hc w m).mono fun v w' ⟨x, hx, hv, m'⟩ => by
    subst hv
    exact ⟨_, _, by rw [hd]; exact s.put hN _, m.trans m', hp x hx, h x hx⟩
theorem GT_call0_g {v : Value} {f : Operand} {args : Array Operand} {ts : Array TypeId} {fi : FuncId} {fs cs : Array Value} {vs args' : List Value} {j dj : Nat} {g : Bool} {oj : Oper}
    (ho : opAt ops i = some o) (hop : o.op = .call { callee := .value f, args := args, argTypes := ts }) (hg : o.guard = some (j, g)) (hj : opAt ops j = some oj) (hdj : oj.dst = some dj) (hl : look L dj = some (.bool g)) (hd : o.dst = some d) (hN : Nat.blt d C.N = true)
    (hf : ev L f = some (.func (.func fi) fs cs)) (ha : evs L args.toList = some vs) (he : fs.toList ++ vs ++ cs.toList = args') (hb : runs C.P fi = true)
    (hc : ∀ w, SH C.w0 C.M H w → Con0 C.P fi args' w v) (hp : GR C ops ((d, v) :: L) D H pend) (h : GT C ops k ((d, v) :: L) D H n) : GT C ops k L D H (.ld i pend n) :=
  GT_call_g (ι := Unit) (Hn := fun _ => []) (V := fun _ => v) (p := fun _ => True) ho hop hg hj hdj hl hd hN hf ha he hb (fun w m => (hc w m).mono fun _ _ ⟨e, m'⟩ => ⟨(), trivial, e, m'⟩) (fun _ _ => hp) (fun _ _ => h)
theorem GT_ldv {v : Value} (ho : opAt ops i = some o) (hg : o.guard = none) (hd : o.dst = some d) (hN : Nat.blt d C.N = true) (hq : Oper.isDefer o = false) (hv : OpV C L H o v) (hp : GR C ops ((d, v) :: L) D H pend) (h : GT C ops k ((d, v) :: L) D H n) :
    GT C ops k L D H (.ld i pend n) := by
  refine GT_ld ho hg hq fun a w s m => ?_
  rw [hv D a w s m]
  exact ⟨_, _, by rw [hd]; exact s.put hN _, m, hp, h⟩
/-! structs -/
def evParts (L : Slots) : List (Nat × Operand) → Option (List (Nat × Value))
  | [] => some []
  | (i, x) :: r => match ev L x, evParts L r with
    | some v, some vs => some ((i, v) :: vs)
    | _, _ => none
theorem evParts_eval {N : Nat} {a : Act} (s : St N L D a) : ∀ {ps : List (Nat × Operand)} {vs : List (Nat × Value)}, evParts L ps = some vs → (ps.map fun x => (x.1, a.eval x.2)) = vs
  | [], vs, he => by simp [evParts] at he; simp [← he]
  | (i, x) :: r, vs, he => by
    simp only [evParts] at he
    cases h1 : ev L x with
    | none => simp [h1] at he
    | some v =>
      cases h2 : evParts L r with
      | none => simp [h1, h2] at he
      | some us =>
        simp [h1, h2] at he
        rw [← he, List.map_cons, s.eval h1, evParts_eval s h2]
def plAt : List (Nat × Nat) → Nat → Option (Nat × Nat)
  | [], _ => none
  | p :: _, 0 => some p
  | _ :: r, i + 1 => plAt r i
theorem plAt_eq : ∀ (l : List (Nat × Nat)) (i : Nat), plAt l i = l[i]?
  | [], i => by simp [plAt]
  | o :: r, 0 => rfl
  | o :: r, i + 1 => by simp [plAt, plAt_eq r i]
def fillL (pl : List (Nat × Nat)) : List Value → List (Nat × Value) → Option (List Value)
  | l, [] => some l
  | l, (i, v) :: r => match plAt pl i with
    | some (off, size) => bif Nat.beq v.cells.toList.length size && Nat.ble (off + size) l.length then fillL pl (setsAt l off v.cells.toList) r else none
    | none => none
theorem zip_sets : ∀ (vs l : List Value) (off j : Nat), ((vs.zipIdx j).foldl (fun cs (p : Value × Nat) => cs.setIfInBounds (off + p.2) p.1) l.toArray) = (setsAt l (off + j) vs).toArray
  | [], l, off, j => rfl
  | v :: vs, l, off, j => by
    simp only [List.zipIdx_cons, List.foldl_cons, setsAt]
    have := zip_sets vs (l.set (off + j) v) off (j + 1)
    rw [show off + j + 1 = off + (j + 1) by omega, ← this]
    simp
theorem fill_L {pl : List (Nat × Nat)} {place : Nat → Option (Nat × Nat)} (hpl : ∀ i x, pl[i]? = some x → place i = some x) : ∀ (ps : List (Nat × Value)) (l vs : List Value), fillL pl l ps = some vs → Instr.fill place l.toArray ps = some vs.toArray
  | [], l, vs, h => by simp [fillL] at h; simp [Instr.fill, h]
  | (i, v) :: r, l, vs, h => by
    simp only [fillL, plAt_eq] at h
    cases hp : pl[i]? with
    | none => simp [hp] at h
    | some x =>
      obtain ⟨off, size⟩ := x
      simp only [hp] at h
      cases hc : (Nat.beq v.cells.toList.length size && Nat.ble (off + size) l.length) with
      | false => rw [hc] at h; cases h
      | true =>
        rw [hc, cond_true] at h
        simp only [Bool.and_eq_true] at hc
        have h1 : v.cells.toList.length = size := Nat.eq_of_beq_eq_true hc.1
        have h2 : off + size ≤ l.length := Nat.le_of_ble_eq_true hc.2
        have ih := fill_L hpl r _ _ h
        simp only [Instr.fill, hpl _ _ hp]
        have e1 : v.cells.size = size := by simpa using h1
        rw [if_neg (by simp [e1]; omega)]
        have e2 : (v.cells.zipIdx.foldl (fun cs (p : Value × Nat) => cs.setIfInBounds (off + p.2) p.1) l.toArray) = (setsAt l off v.cells.toList).toArray := by
          have := zip_sets v.cells.toList l off 0
          simp only [Nat.add_zero] at this
          rw [← this, ← Array.foldl_toList]
          simp
        rw [← ih, ← e2]
theorem run_places {P : Program} {w : World} : ∀ (fs : List Field) (pl : List (Nat × Nat)), (fs.mapM fun f => (szOf P f.type).map fun n => (f.offset, n)) = some pl →
    ((fs.mapM fun f => do pure (f.offset, ← sizeOf f.type) : Sem (List (Nat × Nat)))).run P w = .ok pl w
  | [], pl, h => by simp at h; simp [← h]
  | f :: r, pl, h => by
    simp only [List.mapM_cons, Option.bind_eq_bind, Option.bind_eq_some_iff, Option.map_eq_some_iff, szOf] at h
    obtain ⟨x, ⟨n, ⟨inf, hi, hn⟩, rfl⟩, y, hy, hz⟩ := h
    have ih := run_places (P := P) (w := w) r y (by simpa [szOf] using hy)
    simp only [Option.pure_def, Option.some.injEq] at hz
    have h1 : (do let a ← sizeOf f.type; pure (f.offset, a) : Sem (Nat × Nat)).run P w = .ok (f.offset, n) w := by simp [sizeOf, typeInfo, hi, hn]
    rw [List.mapM_cons, Sem.run_bind, h1, Result.andThen_ok, Sem.run_bind, ih, Result.andThen_ok, Sem.run_pure, hz]
def isAggOf (P : Program) (t : TypeId) : Bool := match P.underlying t with | some (.struct _) => true | some (.array ..) => true | _ => false
theorem run_build {P : Program} {w : World} {t : TypeId} {z vs : List Value} {pl : List (Nat × Nat)} {ps : List (Nat × Value)} (hz : zcOf P t = some z) (hp : plOf P t = some pl) (hg : isAggOf P t = true) (hf : fillL pl z ps = some vs) :
    (Instr.build t ps.toArray).run P w = .ok (.agg vs.toArray) w := by
  obtain ⟨v, hv, rfl⟩ := Option.map_eq_some_iff.1 hz
  obtain ⟨inf, hi, hz0⟩ := Option.bind_eq_some_iff.1 hv
  unfold plOf at hp
  unfold isAggOf at hg
  cases hu : P.underlying t with
  | none => simp [hu] at hg
  | some u =>
    simp only [hu] at hp hg
    cases u <;> simp at hg
    case struct fs =>
      have hm := run_places (P := P) (w := w) fs.toList pl hp
      have hm' : ((fs.mapM fun f => do pure (f.offset, ← sizeOf f.type) : Sem (Array (Nat × Nat)))).run P w = .ok pl.toArray w := by
        rw [Array.mapM_eq_mapM_toList]
        simp only [Sem.run_map, hm, Result.andThen_ok]
      have hfill := fill_L (place := fun i => pl.toArray[i]?) (pl := pl) (by simp) ps v.cells.toList vs hf
      simp only [Array.toArray_toList] at hfill
      simp only [Instr.build, zeroValue, typeInfo, underlying, Sem.run_bind, run_program, Result.andThen_ok, hi, Sem.run_pure, hz0, hu, hm', hfill]
    case array len e =>
      obtain ⟨nn, hn, rfl⟩ := Option.map_eq_some_iff.1 hp
      obtain ⟨inf2, hi2, rfl⟩ := Option.map_eq_some_iff.1 hn
      have hfill := fill_L (place := fun i => some (i * inf2.size, inf2.size)) (pl := (List.range len).map fun i => (i * inf2.size, inf2.size)) (by
        intro i x hx
        simp only [List.getElem?_map, Option.map_eq_some_iff] at hx
        obtain ⟨j, hj, rfl⟩ := hx
        have := List.getElem?_eq_some_iff.1 hj
        obtain ⟨h1, h2⟩ := this
        simp at h2
        rw [h2]) ps v.cells.toList vs hf
      simp only [Array.toArray_toList] at hfill
      simp only [Instr.build, zeroValue, typeInfo, underlying, Sem.run_bind, run_program, Result.andThen_ok, hi, Sem.run_pure, hz0, hu, sizeOf, hi2, hfill]
theorem V_build {t : TypeId} {parts : Array (Nat × Operand)} {z vs : List Value} {pl : List (Nat × Nat)} {ps : List (Nat × Value)} (ho : o.op = .build t parts) (he : evParts L parts.toList = some ps) (hz : zcOf C.P t = some z) (hp : plOf C.P t = some pl) (hg : isAggOf C.P t = true)
    (hf : fillL pl z ps = some vs) : OpV C L H o (.agg vs.toArray) := fun D a w s m => by
  have := evParts_eval s he
  have e : (parts.map fun x => (x.1, a.eval x.2)) = ps.toArray := by
    rw [← this]; obtain ⟨l⟩ := parts; simp
  simp only [execOp, ho, e, Sem.run_bind, run_build hz hp hg hf, Result.andThen_ok]
  rfl
theorem run_part1 {P : Program} {w : World} {t off : Nat} {cs : Array Value} {v : Value} (ha : aggOf P t = some false) (hv : cs[off]? = some v) : (part t cs off).run P w = .ok v w := by
  obtain ⟨u, hu, hb⟩ := Option.map_eq_some_iff.1 ha
  have hag : (isAgg t).run P w = .ok false w := by
    simp [isAgg, underlying, hu]
    cases u <;> simp at hb <;> rfl
  simp [part, hag, hv]
theorem run_partN {P : Program} {w : World} {t off nn : Nat} {cs vs : List Value} (ha : aggOf P t = some true) (hs : szOf P t = some nn) (hv : (cs.drop off).take nn = vs) : (part t cs.toArray off).run P w = .ok (.agg vs.toArray) w := by
  obtain ⟨u, hu, hb⟩ := Option.map_eq_some_iff.1 ha
  obtain ⟨inf, hi, rfl⟩ := Option.map_eq_some_iff.1 hs
  have hag : (isAgg t).run P w = .ok true w := by
    simp [isAgg, underlying, hu]
    cases u <;> simp at hb <;> rfl
  have e : cs.toArray.extract off (off + inf.size) = vs.toArray := by
    rw [← hv]
    simp
  have h1 : (sizeOf t).run P w = .ok inf.size w := by simp [sizeOf, typeInfo, hi]
  unfold part
  rw [Sem.run_bind, hag, Result.andThen_ok, if_pos rfl, Sem.run_bind, h1, Result.andThen_ok, Sem.run_pure, e]
/-! arrays that are held as values -/
theorem V_indexAgg {t e sz len kk : Nat} {x y : Operand} {kd : IntKind} {z : Int} {cs : List Value} {v : Value} (ho : o.op = .index t x y) (hx : ev L x = some (.agg cs.toArray)) (hy : ev L y = some (.int kd z)) (ht : C.P.underlying t = some (.array len e)) (ha : aggOf C.P e = some false) (hs : szOf C.P e = some sz)
    (hz : z = (kk : Int)) (hk : kk < len) (hv : cs[kk * sz]? = some v) : OpV C L H o v := fun D a w s m => by
  obtain ⟨inf, hi, rfl⟩ := Option.map_eq_some_iff.1 hs
  subst hz
  have := run_part1 (w := w) (cs := cs.toArray) ha (by simpa using hv)
  simp [execOp, ho, s.eval hx, s.eval hy, Instr.index, asIntOf, underlying, ht, hk, sizeOf, typeInfo, hi, this]
theorem V_indexAggN {t e sz len kk : Nat} {x y : Operand} {kd : IntKind} {z : Int} {cs vs : List Value} (ho : o.op = .index t x y) (hx : ev L x = some (.agg cs.toArray)) (hy : ev L y = some (.int kd z)) (ht : C.P.underlying t = some (.array len e)) (ha : aggOf C.P e = some true) (hs : szOf C.P e = some sz)
    (hz : z = (kk : Int)) (hk : kk < len) (hv : (cs.drop (kk * sz)).take sz = vs) : OpV C L H o (.agg vs.toArray) := fun D a w s m => by
  have hs' := hs
  obtain ⟨inf, hi, rfl⟩ := Option.map_eq_some_iff.1 hs
  subst hz
  have := run_partN (w := w) ha hs' hv
  simp [execOp, ho, s.eval hx, s.eval hy, Instr.index, asIntOf, underlying, ht, hk, sizeOf, typeInfo, hi, this]
theorem V_indexArr {t e sz len kk b q : Nat} {x y : Operand} {kd : IntKind} {z : Int} (ho : o.op = .indexAddr t x y) (hx : ev L x = some (ptr b q)) (hy : ev L y = some (.int kd z)) (ht : C.P.underlying t = some (.array len e)) (hs : szOf C.P e = some sz)
    (hz : z = (kk : Int)) (hk : kk < len) : OpV C L H o (ptr b (q + kk * sz)) := fun D a w s m => by
  obtain ⟨inf, hi, rfl⟩ := Option.map_eq_some_iff.1 hs
  subst hz
  simp [execOp, ho, s.eval hx, s.eval hy, Instr.indexAt, asIntOf, underlying, ht, hk, sizeOf, typeInfo, hi, Instr.sureAddr, add_lit]
/-! slices that are made -/
theorem made_eq (nn k : Nat) (z : Array Value) (hk : k = z.toList.length) : madeCells z (nn * k) = ((List.replicate nn z.toList).flatten).toArray := by
  subst hk
  induction nn with
  | zero => simp [madeCells]
  | succ q ih =>
    have h1 : madeCells z ((q + 1) * z.toList.length) = madeCells z (q * z.toList.length) ++ z := by
      unfold madeCells
      apply Array.ext
      · simp [Nat.add_mul]
      · intro i hi hi2
        simp only [Array.getElem_map, Array.getElem_range, Array.getElem_append, Array.size_map, Array.size_range]
        split
        · rfl
        · rename_i hlt
          simp at hi hlt
          have hz : i % z.size = i - q * z.size := by
            have hd : i = (i - q * z.size) + q * z.size := by omega
            have hl : i - q * z.size < z.size := by rw [Nat.add_mul] at hi; omega
            conv => lhs; rw [hd, Nat.add_mul_mod_self_right]
            exact Nat.mod_eq_of_lt hl
          have hl : i - q * z.size < z.size := by rw [Nat.add_mul] at hi; omega
          rw [hz, getElem!_pos z _ hl]
          simp
    rw [h1, ih, List.replicate_succ']
    simp
theorem GT_makeSlice {t e sz by_ nn : Nat} {x y : Operand} {k1 k2 : IntKind} {z1 z2 : Int} {z : List Value} (ho : opAt ops i = some o) (hop : o.op = .makeSlice t x y) (hg : o.guard = none) (hd : o.dst = some d) (hN : Nat.blt d C.N = true) (hx : ev L x = some (.int k1 z1)) (hy : ev L y = some (.int k2 z2)) (ht : C.P.underlying t = some (.slice e)) (hz : zcOf C.P e = some z) (hs : szOf C.P e = some sz) (hb : byOf C.P e = some by_)
    (h12 : z1 = (nn : Int) ∧ z2 = (nn : Int) ∧ z.length = sz) (hn : nn ≤ 1099511627776 ∧ by_ * nn ≤ 281474976710656)
    (hp : ∀ b, GR C ops ((d, .slice (some ⟨b, 0, none⟩) nn nn) :: L) D ((b, blk ((List.replicate nn z).flatten) e) :: H) pend) (h : ∀ b, GT C ops k ((d, .slice (some ⟨b, 0, none⟩) nn nn) :: L) D ((b, blk ((List.replicate nn z).flatten) e) :: H) n) : GT C ops k L D H (.ld i pend n) := by
  refine GT_ld ho hg (by simp [Oper.isDefer, hop]) fun a w s m => ?_
  obtain ⟨v, hv, rfl⟩ := Option.map_eq_some_iff.1 hz
  obtain ⟨inf, hi, hz0⟩ := Option.bind_eq_some_iff.1 hv
  obtain ⟨inf', hi', rfl⟩ := Option.map_eq_some_iff.1 hs
  obtain ⟨inf'', hi'', rfl⟩ := Option.map_eq_some_iff.1 hb
  rw [hi] at hi' hi''; cases hi'; cases hi''
  have hsz : v.cells.toList.length = inf.size := h12.2.2
  obtain ⟨rfl, rfl, _⟩ := h12
  have hby : (inf.bytes : Int) * (nn : Int) ≤ 281474976710656 := by
    have : ((inf.bytes * nn : Nat) : Int) ≤ 281474976710656 := by omega
    rwa [Int.natCast_mul] at this
  have hrun := run_make (P := C.P) w t e inf v ht hi hz0 k1 k2 nn nn (by omega) (Int.le_refl _) hby (by omega)
  simp only [Int.toNat_natCast] at hrun
  have e1 : (execOp a.eval o).run C.P w = .ok (.value (.slice (some ⟨w.heap.size, 0, none⟩) nn nn)) { w with heap := w.heap.push (.cells (madeCells v.cells (nn * inf.size)) e) } := by
    simp only [execOp, hop, s.eval hx, s.eval hy, Sem.run_bind, hrun, Result.andThen_ok]
    rfl
  rw [e1]
  have e2 : madeCells v.cells (nn * inf.size) = ((List.replicate nn v.cells.toList).flatten).toArray := made_eq nn _ _ hsz.symm
  rw [e2]
  exact ⟨_, _, by rw [hd]; exact s.put hN _, m.alloc _, hp _, h _⟩
theorem GT_buildSlice {t e nn sz : Nat} {parts : Array (Nat × Operand)} {z0 z : List Value} {ps : List (Nat × Value)} (ho : opAt ops i = some o) (hop : o.op = .buildSlice t nn parts) (hg : o.guard = none) (hd : o.dst = some d) (hN : Nat.blt d C.N = true) (ht : C.P.underlying t = some (.slice e)) (hz : zcOf C.P e = some z0) (hs : szOf C.P e = some sz)
    (hle : nn * sz ≤ 16777216 ∧ z0.length = sz) (he : evParts L parts.toList = some ps) (hf : fillL ((List.range nn).map fun i => (i * sz, sz)) ((List.replicate nn z0).flatten) ps = some z)
    (hp : ∀ b, GR C ops ((d, .slice (some ⟨b, 0, none⟩) nn nn) :: L) D ((b, blk z e) :: H) pend) (h : ∀ b, GT C ops k ((d, .slice (some ⟨b, 0, none⟩) nn nn) :: L) D ((b, blk z e) :: H) n) : GT C ops k L D H (.ld i pend n) := by
  refine GT_ld ho hg (by simp [Oper.isDefer, hop]) fun a w s m => ?_
  obtain ⟨v, hv, rfl⟩ := Option.map_eq_some_iff.1 hz
  obtain ⟨inf, hi, hz0⟩ := Option.bind_eq_some_iff.1 hv
  obtain ⟨inf', hi', rfl⟩ := Option.map_eq_some_iff.1 hs
  rw [hi] at hi'; cases hi'
  have hev := evParts_eval s he
  have e0 : (parts.map fun x => (x.1, a.eval x.2)) = ps.toArray := by
    rw [← hev]; obtain ⟨l⟩ := parts; simp
  have hsz : v.cells.size = inf.size := by simpa using hle.2
  have e2 : madeCells v.cells (nn * inf.size) = ((List.replicate nn v.cells.toList).flatten).toArray := made_eq nn _ _ hle.2.symm
  have hfill := fill_L (place := fun i => some (i * inf.size, inf.size)) (pl := (List.range nn).map fun i => (i * inf.size, inf.size)) (by
    intro i x hx
    simp only [List.getElem?_map, Option.map_eq_some_iff] at hx
    obtain ⟨j, hj, rfl⟩ := hx
    have := List.getElem?_eq_some_iff.1 hj
    obtain ⟨h1, h2⟩ := this
    simp at h2
    rw [h2]) ps _ z hf
  rw [← e2] at hfill
  have e1 : (execOp a.eval o).run C.P w = .ok (.value (.slice (some ⟨w.heap.size, 0, none⟩) nn nn)) { w with heap := w.heap.push (.cells z.toArray e) } := by
    have hroom : ¬ (nn * inf.size > 2 ^ 24) := by have := hle.1; omega
    by_cases h0 : nn * inf.size = 0
    · rw [h0] at hfill
      have hr0 : Array.range 0 = #[] := by simp [Array.range]
      simp only [madeCells, hr0, Array.map_empty] at hfill
      simp only [execOp, hop, e0, Instr.buildSlice, underlying, Sem.run_bind, run_program, Result.andThen_ok, ht, Sem.run_pure, sizeOf, typeInfo, hi, Nat.not_lt_zero, gt_iff_lt, if_false, h0, if_true, hr0, Array.map_empty]
      simp [hfill, newRow]
    · simp only [execOp, hop, e0, Instr.buildSlice, underlying, Sem.run_bind, run_program, Result.andThen_ok, ht, Sem.run_pure, sizeOf, typeInfo, hi, if_neg hroom, h0, if_false, zeroValue, hz0]
      unfold madeCells at hfill
      simp [hfill, newRow]
  rw [e1]
  exact ⟨_, _, by rw [hd]; exact s.put hN _, m.alloc _, hp _, h _⟩
end
end Go.Sx
/-
  Slices that come in: what their elements read.
-/
namespace Go.Sx
open Go.RowKit
structure RdL {α : Type} (w : World) (sz : Nat) (enc : α → List Value) (A : Option Addr) (l : List α) : Prop where
  there : l ≠ [] → A.isSome = true
  cell : ∀ k x, l[k]? = some x → ∀ j v, (enc x)[j]? = some v → w.cell? ((ad A).add (k * sz + j)) = some v
theorem RdL.sh {α : Type} {w0 w : World} {sz : Nat} {enc : α → List Value} {A : Option Addr} {l : List α} {H : Items} (h : RdL w0 sz enc A l) (m : SH w0 none' H w) : RdL w sz enc A l :=
  ⟨h.there, fun k x hk j v hv => m.cellOld (h.cell k x hk j v hv) (fun e => e)⟩
theorem RdL.isSome {α : Type} {w : World} {sz : Nat} {enc : α → List Value} {A : Option Addr} {l : List α} (h : RdL w sz enc A l) {k : Nat} (hk : k < l.length) : A.isSome = true :=
  h.there (by intro e; subst e; simp at hk)
theorem getD_of {α : Type} {l : List α} {k : Nat} (d : α) (hk : k < l.length) : l[k]? = some (l.getD k d) := by
  simp [List.getD, hk]
theorem RdL.take {α : Type} {w : World} {sz : Nat} {enc : α → List Value} {A : Option Addr} {l : List α} (h : RdL w sz enc A l) (n : Nat) : RdL w sz enc A (l.take n) :=
  ⟨fun e => h.there (fun e' => e (by simp [e'])), fun k x hk j v hv => h.cell k x (by
    rw [List.getElem?_take] at hk
    split at hk
    · exact hk
    · cases hk) j v hv⟩
section
variable {C : Cx} {H : Items} {α : Type} [Inhabited α] {sz : Nat} {enc : α → List Value} {A : Option Addr} {l : List α}
theorem RdL.at1 (h : RdL C.w0 sz enc A l) (hM : ∀ b, ¬ C.M b) {k : Nat} (hk : k < l.length) {j : Nat} {v : Value} (hv : (enc (l.getD k default))[j]? = some v) : CellAt C H ((ad A).add (k * sz + j)) v :=
  CellAt.old (h.cell k _ (getD_of default hk) j v hv) (hM _)
theorem RdL.at0 (h : RdL C.w0 sz enc A l) (hM : ∀ b, ¬ C.M b) {k : Nat} (hk : k < l.length) {v : Value} (hv : (enc (l.getD k default))[0]? = some v) : CellAt C H ((ad A).add (k * sz)) v :=
  h.at1 (H := H) hM hk (j := 0) hv
theorem RdL.ats (h : RdL C.w0 sz enc A l) (hM : ∀ b, ¬ C.M b) {k : Nat} (hk : k < l.length) : CellsAt C H ((ad A).add (k * sz)) (enc (l.getD k default)) := by
  intro i v hi
  rw [add_add']
  exact h.at1 hM hk hi
end
theorem noM {P : Program} {hm : P.follows .mixedOrders = true} {f N : Nat} {w0 : World} {R : Value → World → Prop} : ∀ b, ¬ (cx P hm f N w0 none' R).M b := fun _ e => e
theorem flat_get {α : Type} {sz : Nat} {enc : α → List Value} (hs : ∀ x, (enc x).length = sz) : ∀ (l : List α) (k : Nat) (x : α), l[k]? = some x → ∀ j v, (enc x)[j]? = some v → (l.flatMap enc)[k * sz + j]? = some v
  | [], k, x, h => by simp at h
  | y :: l, 0, x, h => by
    intro j v hj
    simp only [List.getElem?_cons_zero, Option.some.injEq] at h
    subst h
    have hlt : j < (enc y).length := (List.getElem?_eq_some_iff.1 hj).1
    simp only [Nat.zero_mul, Nat.zero_add, List.flatMap_cons]
    rw [List.getElem?_append_left hlt]; exact hj
  | y :: l, k + 1, x, h => by
    intro j v hj
    simp only [List.getElem?_cons_succ] at h
    have ih := flat_get hs l k x h j v hj
    simp only [List.flatMap_cons]
    rw [List.getElem?_append_right (by rw [hs, Nat.add_mul]; omega), hs]
    rw [show (k + 1) * sz + j - sz = k * sz + j by rw [Nat.add_mul]; omega]
    exact ih
theorem RdL.own {α : Type} {w0 w : World} {M : Nat → Prop} {H : Items} {sz b : Nat} {t : TypeId} {fr : Nat × Nat} {enc : α → List Value} {l : List α} {rest : List Value} (m : SH w0 M H w) [h : HFind b H (.cells (l.flatMap enc ++ rest).toArray t fr)] (hs : ∀ x, (enc x).length = sz) : RdL w sz enc (some ⟨b, 0, none⟩) l := by
  refine ⟨fun _ => rfl, fun k x hk j v hv => ?_⟩
  have hi := (m.item _ h.mem).2
  have := flat_get hs l k x hk j v hv
  have hlt := (List.getElem?_eq_some_iff.1 this).1
  simp only [ad, Option.getD_some, add_lit, World.cell?, hi, Nat.zero_add]
  simp only [Option.isSome_none, Bool.false_eq_true, if_false, List.getElem?_toArray]
  rw [List.getElem?_append_left hlt]; exact this
theorem RdL.own' {α : Type} {w0 w : World} {M : Nat → Prop} {H : Items} {sz b : Nat} {t : TypeId} {fr : Nat × Nat} {enc : α → List Value} {l : List α} (m : SH w0 M H w) [h : HFind b H (.cells (l.flatMap enc).toArray t fr)] (hs : ∀ x, (enc x).length = sz) : RdL w sz enc (some ⟨b, 0, none⟩) l := by
  have h' : HFind b H (.cells (l.flatMap enc ++ []).toArray t fr) := by simpa using h
  exact RdL.own m hs
theorem RdL.nil {α : Type} {w : World} {sz : Nat} {enc : α → List Value} {A : Option Addr} : RdL w sz enc A ([] : List α) := ⟨fun e => absurd rfl e, fun k x hk => by simp at hk⟩
theorem CellAt.row {C : Cx} {H : Items} {α : Type} [Inhabited α] {sz b k j : Nat} {t : TypeId} {fr : Nat × Nat} {enc : α → List Value} {l : List α} {v : Value} [h : HFind b H (.cells (l.flatMap enc).toArray t fr)] (hs : ∀ x, (enc x).length = sz) (hk : k < l.length) (hv : (enc (l.getD k default))[j]? = some v) {q : Nat} (hq : q = k * sz + j) : CellAt C H ⟨b, q, none⟩ v := by
  subst hq
  exact CellAt.item (flat_get hs l k _ (getD_of default hk) j v hv)
theorem CellsAt.row {C : Cx} {H : Items} {α : Type} [Inhabited α] {sz b k : Nat} {t : TypeId} {fr : Nat × Nat} {enc : α → List Value} {l : List α} [h : HFind b H (.cells (l.flatMap enc).toArray t fr)] (hs : ∀ x, (enc x).length = sz) (hk : k < l.length) {q : Nat} (hq : q = k * sz) : CellsAt C H ⟨b, q, none⟩ (enc (l.getD k default)) := by
  subst hq
  intro i v hi
  rw [add_lit]
  exact CellAt.row hs hk hi rfl
theorem flat_set {α : Type} {sz : Nat} {enc : α → List Value} (hs : ∀ x, (enc x).length = sz) (hz : 0 < sz) : ∀ (l : List α) (k : Nat) (x : α), k < l.length → setsAt (l.flatMap enc) (k * sz) (enc x) = (l.set k x).flatMap enc
  | [], k, x, h => by simp at h
  | y :: l, 0, x, h => by
    rw [setsAt_eq _ _ _ (by simp [hs])]
    simp [hs]
  | y :: l, k + 1, x, h => by
    have hk : k < l.length := by simpa using h
    have hle : (k + 1) * sz + (enc x).length ≤ ((y :: l).flatMap enc).length := by
      have : (l.flatMap enc).length = l.length * sz := by
        clear h hk
        induction l with
        | nil => simp
        | cons z l ih => simp [hs, ih, Nat.add_mul, Nat.add_comm]
      simp only [List.flatMap_cons, List.length_append, hs, this]
      have : (k + 1) * sz ≤ l.length * sz := Nat.mul_le_mul_right _ hk
      omega
    have ih := flat_set hs hz l k x hk
    have hle2 : k * sz + (enc x).length ≤ (l.flatMap enc).length := by
      simp only [List.flatMap_cons, List.length_append, hs, Nat.add_mul] at hle ⊢
      omega
    rw [setsAt_eq _ _ _ hle2] at ih
    rw [setsAt_eq _ _ _ hle]
    simp only [List.flatMap_cons, List.set_cons_succ, ← ih]
    rw [List.take_append, List.drop_append, hs]
    rw [List.take_of_length_le (by rw [hs, Nat.add_mul]; omega), List.drop_eq_nil_of_le (by rw [hs, Nat.add_mul]; omega)]
    rw [show (k + 1) * sz - sz = k * sz by rw [Nat.add_mul]; omega, show (k + 1) * sz + (enc x).length - sz = k * sz + (enc x).length by rw [Nat.add_mul]; omega, hs]
    simp
end Go.Sx
