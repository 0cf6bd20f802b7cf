/-
  Short forms of the commonest steps: what a step asks of an operation is computed at once.
-/
import Derived.Test.YtncleikbggjmjaaGreatDoorMt9
namespace Go.Sx
open Go.RowKit

/-- the operation at a place, and where it puts what it comes to: it has no guard, or its guard wants it -/
def rdS (N : Nat) (ops : Array Oper) (L : Slots) (i : Nat) : Option (Oper × Nat) :=
  match opAt ops i with
  | some o => match o.dst with
    | some d => bif Nat.blt d N then
        match o.guard with
        | none => some (o, d)
        | some (j, g) => match opAt ops j with
          | some oj => match oj.dst with
            | some dj => match look L dj with
              | some (.bool b) => bif (bif g then b else !b) then some (o, d) else none
              | _ => none
            | none => none
          | none => none
      else none
    | none => none
  | none => none

section
variable {C : Cx} {L : Slots} {D : List Deferred} {H : Items} {k : List Item} {ops : Array Oper} {i d : Nat} {o : Oper} {n : Tr} {pend : List Nat} {v : Value}

theorem rdS_of {N : Nat} (h : rdS N ops L i = some (o, d)) : opAt ops i = some o ∧ o.dst = some d ∧ Nat.blt d N = true ∧
    (o.guard = none ∨ ∃ j g oj dj, o.guard = some (j, g) ∧ opAt ops j = some oj ∧ oj.dst = some dj ∧ look L dj = some (.bool g)) := by
  unfold rdS at h
  split at h
  · rename_i o' ho
    split at h
    · rename_i d' hd
      cases hN : Nat.blt d' N with
      | false => rw [hN] at h; cases h
      | true =>
        rw [hN] at h
        simp only [cond_true] at h
        split at h
        · rename_i hg; cases h; exact ⟨ho, hd, hN, .inl hg⟩
        · rename_i j g hg
          split at h
          · rename_i oj hoj
            split at h
            · rename_i dj hdj
              split at h
              · rename_i b hb
                have : (bif g then b else !b) = true ∧ o' = o ∧ d' = d := by
                  cases hq : (bif g then b else !b) with
                  | false => rw [hq] at h; cases h
                  | true => rw [hq] at h; cases h; exact ⟨rfl, rfl, rfl⟩
                obtain ⟨hq, rfl, rfl⟩ := this
                have e : b = g := by cases b <;> cases g <;> simp_all
                subst e
                exact ⟨ho, hd, hN, .inr ⟨j, b, oj, dj, hg, hoj, hdj, hb⟩⟩
              · cases h
            · cases h
          · cases h
    · cases h
  · cases h

theorem GT_S (h : rdS C.N ops L i = some (o, d)) (hv : OpV C L H o v) (hk : GT C ops k ((d, v) :: L) D H n) : GT C ops k L D H (.st i n) := by
  obtain ⟨ho, hd, hN, hg | ⟨j, g, oj, dj, hg, hj, hdj, hl⟩⟩ := rdS_of h
  · exact GT_st ho hg hd hN hv hk
  · exact GT_st_g ho hg hj hdj hl hd hN hv hk
theorem GR_S {j : Nat} (h : rdS C.N ops L j = some (o, d)) (hl : look L d = some v) (hv : OpV C L H o v) (hk : GR C ops L D H pend) : GR C ops L D H (j :: pend) := by
  obtain ⟨ho, hd, _, hg | ⟨q, g, oj, dj, hg, hj, hdj, hlj⟩⟩ := rdS_of h
  · exact GR_cons ho hg hd hl hv hk
  · exact GR_cons_g ho hg hj hdj hlj hd hl hv hk

/-- what an operation that looks comes to, if the slots alone tell it -/
def plV (L : Slots) (op : Op) : Option Value :=
  match op with
  | .move x => ev L x
  | .assign x => ev L x
  | .pick c x y => match ev L c with
    | some (.bool b) => bif b then ev L x else ev L y
    | _ => none
  | .nilCheck x => match ev L x with
    | some (.pointer (some a)) => some (.pointer (some a))
    | some (.func (.func f) fs cs) => some (.func (.func f) fs cs)
    | some (.func (.yield f) fs cs) => some (.func (.yield f) fs cs)
    | _ => none
  | .extract x i => match ev L x with
    | some (.tuple vs) => vs[i]?
    | _ => none
  | _ => none
theorem plV_of (h : plV L o.op = some v) : OpV C L H o v := by
  unfold plV at h
  split at h
  · rename_i x e; exact V_move e h
  · rename_i x e; exact V_assign e h
  · rename_i c x y e
    split at h
    · rename_i b hc
      cases b with
      | true => exact V_pick_t e hc h
      | false => exact V_pick_f e hc h
    · cases h
  · rename_i x e
    split at h
    · rename_i a hx; cases h; exact V_nilCheck e hx
    · rename_i f fs cs hx; cases h; exact V_nilCheck_func e hx
    · rename_i f fs cs hx; cases h; exact V_nilCheck_yield e hx
    · cases h
  · rename_i x i e
    split at h
    · rename_i vs hx; exact V_extract e hx h
    · cases h
  · cases h
def stV (N : Nat) (ops : Array Oper) (L : Slots) (i : Nat) : Option (Nat × Value) :=
  match rdS N ops L i with
  | some (o, d) => match plV L o.op with
    | some v => some (d, v)
    | none => none
  | none => none
theorem stV_of {N : Nat} (h : stV N ops L i = some (d, v)) : ∃ o, rdS N ops L i = some (o, d) ∧ plV L o.op = some v := by
  unfold stV at h
  split at h
  · rename_i o d' ho
    split at h
    · rename_i v' hv; cases h; exact ⟨o, ho, hv⟩
    · cases h
  · cases h
/-! what is passed over -/
def skS (N : Nat) (ops : Array Oper) (L : Slots) (i : Nat) : Option Nat :=
  match opAt ops i with
  | some o => match o.dst with
    | some d => bif Nat.blt d N then
        match o.guard with
        | none => none
        | some (j, g) => match opAt ops j with
          | some oj => match oj.dst with
            | some dj => match look L dj with
              | some (.bool b) => bif (bif g then b else !b) then none else some d
              | some _ => some d
              | none => none
            | none => none
          | none => none
      else none
    | none => none
  | none => none
theorem skS_of {N : Nat} (h : skS N ops L i = some d) : ∃ o j g oj dj u, opAt ops i = some o ∧ o.guard = some (j, g) ∧ opAt ops j = some oj ∧ oj.dst = some dj ∧ look L dj = some u ∧ boolOf u ≠ some g ∧ o.dst = some d ∧ Nat.blt d N = true := by
  unfold skS at h
  split at h
  · rename_i o' ho
    split at h
    · rename_i d' hd
      cases hN : Nat.blt d' N with
      | false => rw [hN] at h; cases h
      | true =>
        rw [hN] at h
        simp only [cond_true] at h
        split at h
        · cases h
        · rename_i j g hg
          split at h
          · rename_i oj hoj
            split at h
            · rename_i dj hdj
              split at h
              · rename_i b hb
                cases hq : (bif g then b else !b) with
                | true => rw [hq] at h; cases h
                | false =>
                  rw [hq] at h; cases h
                  exact ⟨o', j, g, oj, dj, _, ho, hg, hoj, hdj, hb, by cases b <;> cases g <;> simp_all [boolOf], hd, hN⟩
              · rename_i u hb hu
                cases h
                refine ⟨o', j, g, oj, dj, u, ho, hg, hoj, hdj, hu, ?_, hd, hN⟩
                cases u <;> simp [boolOf]
                exact (hb _ rfl).elim
              · cases h
            · cases h
          · cases h
    · cases h
  · cases h
def stK (N : Nat) (ops : Array Oper) (L : Slots) (i : Nat) : Option (Nat × Value) :=
  match stV N ops L i with
  | some x => some x
  | none => match skS N ops L i with
    | some d => some (d, undef)
    | none => none
theorem Zv (h : stK C.N ops L i = some (d, v)) (hk : GT C ops k ((d, v) :: L) D H n) : GT C ops k L D H (.st i n) := by
  unfold stK at h
  split at h
  · rename_i x hx
    cases h
    obtain ⟨o, h1, h2⟩ := stV_of hx
    exact GT_S h1 (plV_of h2) hk
  · split at h
    · rename_i d' hd
      cases h
      obtain ⟨o, j, g, oj, dj, u, h1, h2, h3, h4, h5, h6, h7, h8⟩ := skS_of hd
      exact GT_skip h1 h2 h3 h4 h5 h6 h7 h8 hk
    · cases h
/-- some such steps, one behind the other -/
def runV (N : Nat) (ops : Array Oper) : Nat → Slots → Tr → Option (Slots × Tr)
  | 0, L, t => some (L, t)
  | m + 1, L, t => match t with
    | .st i n => match stK N ops L i with
      | some (d, v) => runV N ops m ((d, v) :: L) n
      | none => none
    | _ => none
theorem Zr (m : Nat) {L' : Slots} {n' : Tr} (h : runV C.N ops m L n = some (L', n')) (hk : GT C ops k L' D H n') : GT C ops k L D H n := by
  induction m generalizing L n with
  | zero => simp only [runV, Option.some.injEq, Prod.mk.injEq] at h; obtain ⟨rfl, rfl⟩ := h; exact hk
  | succ m ih =>
    simp only [runV] at h
    split at h
    · rename_i i n
      split at h
      · rename_i d v hv; exact Zv hv (ih h)
      · cases h
    · cases h
theorem Rv {j : Nat} (h : stK C.N ops L j = some (d, v)) (hl : look L d = some v) (hk : GR C ops L D H pend) : GR C ops L D H (j :: pend) := by
  unfold stK at h
  split at h
  · rename_i x hx
    cases h
    obtain ⟨o, h1, h2⟩ := stV_of hx
    exact GR_S h1 hl (plV_of h2) hk
  · split at h
    · rename_i d' hd
      cases h
      obtain ⟨o, q, g, oj, dj, u, h1, h2, h3, h4, h5, h6, h7, h8⟩ := skS_of hd
      exact GR_skip h1 h2 h3 h4 h5 h6 h7 hl hk
    · cases h

/-! fields, loads -/
def fdV (N : Nat) (ops : Array Oper) (L : Slots) (i : Nat) : Option (Nat × Nat × Nat × Nat × Nat) :=
  match rdS N ops L i with
  | some (o, d) => match o.op with
    | .fieldAddr s x f => match ev L x with
      | some (.pointer (some ⟨b, q, none⟩)) => some (d, s, f, b, q)
      | _ => none
    | _ => none
  | none => none
theorem fdV_of {N s f b q off : Nat} (h : fdV N ops L i = some (d, s, f, b, q)) (hf : foOf C.P s f = some off) : ∃ o, rdS N ops L i = some (o, d) ∧ OpV C L H o (ptr b (q + off)) := by
  unfold fdV at h
  split at h
  · rename_i o d' ho
    split at h
    · rename_i s' x f' e
      split at h
      · rename_i b' q' hx; cases h; exact ⟨o, ho, V_field e hx hf⟩
      · cases h
    · cases h
  · cases h
theorem Zf {s f b q off : Nat} (h : fdV C.N ops L i = some (d, s, f, b, q)) (hf : foOf C.P s f = some off) (hk : GT C ops k ((d, ptr b (q + off)) :: L) D H n) : GT C ops k L D H (.st i n) := by
  obtain ⟨o, h1, h2⟩ := fdV_of (C := C) (H := H) h hf
  exact GT_S h1 h2 hk
theorem Rf {j s f b q off : Nat} (h : fdV C.N ops L j = some (d, s, f, b, q)) (hf : foOf C.P s f = some off) (hl : look L d = some (ptr b (q + off))) (hk : GR C ops L D H pend) : GR C ops L D H (j :: pend) := by
  obtain ⟨o, h1, h2⟩ := fdV_of (C := C) (H := H) h hf
  exact GR_S h1 hl h2 hk
def ldV (N : Nat) (ops : Array Oper) (L : Slots) (i : Nat) : Option (Nat × TypeId × Addr) :=
  match rdS N ops L i with
  | some (o, d) => match o.op with
    | .load t x => match ev L x with
      | some (.pointer (some a)) => some (d, t, a)
      | _ => none
    | _ => none
  | none => none
theorem ldV_of {N : Nat} {t : TypeId} {a : Addr} (h : ldV N ops L i = some (d, t, a)) : ∃ o x, rdS N ops L i = some (o, d) ∧ o.op = .load t x ∧ ev L x = some (.pointer (some a)) := by
  unfold ldV at h
  split at h
  · rename_i o d' ho
    split at h
    · rename_i t' x e
      split at h
      · rename_i a' hx; cases h; exact ⟨o, x, ho, e, hx⟩
      · cases h
    · cases h
  · cases h
theorem ZL {t : TypeId} {a : Addr} (h : ldV C.N ops L i = some (d, t, a)) (ha : aggOf C.P t = some false) (hc : CellAt C H a v) (hk : GT C ops k ((d, v) :: L) D H n) : GT C ops k L D H (.st i n) := by
  obtain ⟨o, x, h1, h2, h3⟩ := ldV_of h
  exact GT_S h1 (V_load h2 h3 ha hc) hk
theorem Zl {t tb : TypeId} {b q : Nat} {l : List Value} {fr : Nat × Nat} [HFind b H (.cells l.toArray tb fr)] (h : ldV C.N ops L i = some (d, t, ⟨b, q, none⟩)) (ha : aggOf C.P t = some false) (hv : l[q]? = some v) (hk : GT C ops k ((d, v) :: L) D H n) : GT C ops k L D H (.st i n) := ZL h ha (CellAt.item hv) hk
theorem Rl {j : Nat} {t tb : TypeId} {b q : Nat} {l : List Value} {fr : Nat × Nat} [HFind b H (.cells l.toArray tb fr)] (h : ldV C.N ops L j = some (d, t, ⟨b, q, none⟩)) (ha : aggOf C.P t = some false) (hv : l[q]? = some v) (hl : look L d = some v) (hk : GR C ops L D H pend) : GR C ops L D H (j :: pend) := by
  obtain ⟨o, x, h1, h2, h3⟩ := ldV_of h
  exact GR_S h1 hl (V_load h2 h3 ha (CellAt.item hv)) hk
theorem ZN (vs : List Value) {t tb : TypeId} {b q : Nat} {m : Nat} {l : List Value} {fr : Nat × Nat} [HFind b H (.cells l.toArray tb fr)] (h : ldV C.N ops L i = some (d, t, ⟨b, q, none⟩)) (ha : aggOf C.P t = some true) (hs : szOf C.P t = some m) (hn : vs.length = m) (hv : (l.drop q).take vs.length = vs) (hk : GT C ops k ((d, .agg vs.toArray) :: L) D H n) : GT C ops k L D H (.st i n) := by
  obtain ⟨o, x, h1, h2, h3⟩ := ldV_of h
  exact GT_S h1 (V_loadN h2 h3 ha hs hn (CellsAt.item hv)) hk
/-- a field's cell -/
theorem Zg {m s f b q off dl : Nat} {t tb : TypeId} {l : List Value} {fr : Nat × Nat} [HFind b H (.cells l.toArray tb fr)] (h : fdV C.N ops L i = some (d, s, f, b, q)) (hf : foOf C.P s f = some off) (h2 : ldV C.N ops ((d, ptr b (q + off)) :: L) m = some (dl, t, ⟨b, q + off, none⟩)) (ha : aggOf C.P t = some false) (hv : l[q + off]? = some v) (hk : GT C ops k ((dl, v) :: (d, ptr b (q + off)) :: L) D H n) : GT C ops k L D H (.st i (.st m n)) :=
  Zf h hf (Zl h2 ha hv hk)

/-! numbers -/
def arV (N : Nat) (ops : Array Oper) (L : Slots) (i : Nat) : Option (Nat × IntKind × Int) :=
  match rdS N ops L i with
  | some (o, d) => match o.op with
    | .binOp b _ x y _ => match ev L x, ev L y with
      | some (.int k a), some (.int k' c) => match b with
        | .add => bif decide (k = k') then some (d, k, a + c) else none
        | .sub => bif decide (k = k') then some (d, k, a - c) else none
        | .mul => bif decide (k = k') then some (d, k, a * c) else none
        | _ => none
      | _, _ => none
    | _ => none
  | none => none
theorem arV_of {N : Nat} {kd : IntKind} {x z : Int} (h : arV N ops L i = some (d, kd, x)) (hw : kd.wrap x = z) : ∃ o, rdS N ops L i = some (o, d) ∧ OpV C L H o (.int kd z) := by
  unfold arV at h
  split at h
  · rename_i o d' ho
    refine ⟨o, ?_⟩
    split at h
    · rename_i b t x' y t' e
      split at h
      · rename_i kk a kk' c hx hy
        split at h
        all_goals first
          | (cases h; done)
          | (rw [Bool.cond_decide] at h
             split at h
             · rename_i hkk; subst hkk; cases h
               first | exact ⟨ho, V_add e hx hy hw⟩ | exact ⟨ho, V_sub e hx hy hw⟩ | exact ⟨ho, V_mul e hx hy hw⟩
             · cases h)
      · cases h
    · cases h
  · cases h
theorem Za {x : Int} (h : arV C.N ops L i = some (d, .i64, x)) (hw : -9223372036854775808 ≤ x ∧ x ≤ 9223372036854775807) (hk : GT C ops k ((d, .int .i64 x) :: L) D H n) : GT C ops k L D H (.st i n) := by
  obtain ⟨o, h1, h2⟩ := arV_of (C := C) (H := H) h (wrap_i64 hw)
  exact GT_S h1 h2 hk
/-! lengths -/
def lnV (N : Nat) (ops : Array Oper) (L : Slots) (i : Nat) : Option (Nat × TypeId × Nat) :=
  match rdS N ops L i with
  | some (o, d) => match o.op with
    | .call c => match c.callee, c.args.toList, c.argTypes.toList with
      | .builtin .len, [x], [t] => match ev L x with
        | some (.slice _ m _) => some (d, t, m)
        | _ => none
      | _, _, _ => none
    | _ => none
  | none => none
theorem Zn {t e : TypeId} {m : Nat} (h : lnV C.N ops L i = some (d, t, m)) (ht : C.P.underlying t = some (.slice e)) (hk : GT C ops k ((d, I m) :: L) D H n) : GT C ops k L D H (.st i n) := by
  unfold lnV at h
  split at h
  · rename_i o d' ho
    split at h
    · rename_i c hc
      obtain ⟨ce, ⟨al⟩, ⟨tl⟩⟩ := c
      dsimp only at h
      split at h
      · rename_i x t'
        split at h
        · rename_i A m' c hx; cases h; exact GT_S ho (V_len hc ht hx) hk
        · cases h
      · cases h
    · cases h
  · cases h

/-! regions -/
/-- operations in the order in which they stand, from i on, m of them; those listed act -/
def tq : Nat → Nat → List Nat → Tr
  | _, 0, _ => .nil
  | i, m + 1, l => match l with
    | [] => .st i (tq (i + 1) m [])
    | x :: r => bif Nat.beq x i then .ld i [] (tq (i + 1) m r) else .st i (tq (i + 1) m (x :: r))
theorem Zp {id : Nat} {x : Code} (m : Nat) (l : List Nat) (hc : chain ops.size 0 (tq 0 m l) = true) (h : GT C ops (.code x :: k) L D H (tq 0 m l)) : GE C L D H (.code (.seq (.region id ops false) x) :: k) := GE_seq (GE_plain _ hc h)
theorem ZP {id : Nat} (m : Nat) (l : List Nat) (hc : chain ops.size 0 (tq 0 m l) = true) (h : GT C ops k L D H (tq 0 m l)) : GE C L D H (.code (.region id ops false) :: k) := GE_plain _ hc h
theorem Zz {x y : Code} (h : GE C L D H (.code x :: .code y :: k)) : GT C ops (.code (.seq x y) :: k) L D H .nil := GE_seq h
def sel (L : Slots) : List Nat → Option Slots
  | [] => some []
  | d :: r => match look L d with
    | some v => match sel L r with
      | some s => some ((d, v) :: s)
      | none => none
    | none => none
theorem sel_sub {L : Slots} : ∀ (ds : List Nat) {L' : Slots}, sel L ds = some L' → Sub L L'
  | [], L', h => by cases h; trivial
  | d :: r, L', h => by
    unfold sel at h
    split at h
    · rename_i v hv
      split at h
      · rename_i s hs; cases h; exact ⟨hv, sel_sub r hs⟩
      · cases h
    · cases h
theorem Zs (ds : List Nat) {L' : Slots} (hs : sel L ds = some L') (h : GE C L' D H k) : GE C L D H k := GE_slots (sel_sub ds hs) h

theorem Zq {id : Nat} {x : Code} (ds : List Nat) (m : Nat) (l : List Nat) {L' : Slots} (hs : sel L ds = some L') (hc : chain ops.size 0 (tq 0 m l) = true) (h : GT C ops (.code x :: k) L' D H (tq 0 m l)) : GE C L D H (.code (.seq (.region id ops false) x) :: k) := GE_seq (GE_slots (sel_sub ds hs) (GE_plain _ hc h))

/-! blocks -/
def alV (N : Nat) (ops : Array Oper) (i : Nat) : Option (Nat × TypeId) :=
  match rdS N ops [] i with
  | some (o, d) => match o.guard with
    | none => match o.op with
      | .alloc e => some (d, e)
      | _ => none
    | some _ => none
  | none => none
theorem Zb {e : TypeId} {z : List Value} (hr : alV C.N ops i = some (d, e)) (hz : zcOf C.P e = some z) (h : ∀ b, GT C ops k ((d, ptr b 0) :: L) D ((b, blk z e) :: H) n) : GT C ops k L D H (.ld i [] n) := by
  unfold alV at hr
  split at hr
  · rename_i o d' hr'
    obtain ⟨ho, hd, hN, _⟩ := rdS_of hr'
    split at hr
    · rename_i hg
      split at hr
      · rename_i e' hop; cases hr; exact GT_alloc ho hop hg hd hN hz (fun _ => GR_nil) h
      · cases hr
    · cases hr
  · cases hr
def bxV (N : Nat) (ops : Array Oper) (L : Slots) (i : Nat) : Option (Nat × TypeId × Value) :=
  match rdS N ops [] i with
  | some (o, d) => match o.guard with
    | none => match o.op with
      | .box e x => match ev L x with
        | some v => some (d, e, v)
        | none => none
      | _ => none
    | some _ => none
  | none => none
theorem Zx (z : List Value) {e : TypeId} {v : Value} (hr : bxV C.N ops L i = some (d, e, v)) (hz : v.cells.toList = z) (h : ∀ b, GT C ops k ((d, ptr b 0) :: L) D ((b, blk z e) :: H) n) : GT C ops k L D H (.ld i [] n) := by
  unfold bxV at hr
  split at hr
  · rename_i o d' hr'
    obtain ⟨ho, hd, hN, _⟩ := rdS_of hr'
    split at hr
    · rename_i hg
      split at hr
      · rename_i e' x hop
        split at hr
        · rename_i v' hx; cases hr; exact GT_box ho hop hg hd hN hx hz (fun _ => GR_nil) h
        · cases hr
      · cases hr
    · cases hr
  · cases hr
/-- what only looks, in a place where it is taken for what acts -/
def lvV (N : Nat) (ops : Array Oper) (L : Slots) (i : Nat) : Option (Nat × Value) :=
  match opAt ops i with
  | some o => match o.guard with
    | none => bif Oper.isDefer o then none else stV N ops L i
    | some _ => none
  | none => none
theorem Zw (h : lvV C.N ops L i = some (d, v)) (hk : GT C ops k ((d, v) :: L) D H n) : GT C ops k L D H (.ld i [] n) := by
  unfold lvV at h
  split at h
  · rename_i o ho
    split at h
    · rename_i hg
      cases hq : Oper.isDefer o with
      | true => rw [hq] at h; cases h
      | false =>
        rw [hq] at h
        obtain ⟨o', h1, h2⟩ := stV_of h
        obtain ⟨ho', hd, hN, _⟩ := rdS_of h1
        rw [ho] at ho'; cases ho'
        exact GT_ldv ho hg hd hN hq (plV_of h2) GR_nil hk
    · cases h
  · cases h
/-! stores -/
def soV (ops : Array Oper) (L : Slots) (i : Nat) : Option (TypeId × Nat × Nat × Value) :=
  match opAt ops i with
  | some o => match o.guard, o.dst with
    | none, none => match o.op with
      | .store t x y => match ev L x, ev L y with
        | some (.pointer (some ⟨b, q, none⟩)), some v => some (t, b, q, v)
        | _, _ => none
      | _ => none
    | _, _ => none
  | none => none
theorem ZS (vs l' : List Value) {t b q nn : Nat} {v : Value} {l : List Value} {tb : TypeId} {H' : Items} [ht : HTake b H (.cells l.toArray tb (0, 0)) H'] (hq : soV ops L i = some (t, b, q, v)) (hv : v.cells.toList = vs) (hs : szOf C.P t = some nn) (hn : (Nat.beq vs.length nn && vs.all (·.oneCell')) = true) (hle : Nat.ble (q + vs.length) l.length = true) (hl' : setsAt l q vs = l')
    (h : GT C ops k L D ((b, blk l' tb) :: H') n) : GT C ops k L D H (.ld i [] n) := by
  unfold soV at hq
  split at hq
  · rename_i o ho
    split at hq
    · rename_i hg hd
      split at hq
      · rename_i t' x y hop
        split at hq
        · rename_i b' q' v' hx hy
          cases hq
          rw [Bool.and_eq_true] at hn
          exact GT_store ho hop hg hd hx hy hv hs (Nat.eq_of_beq_eq_true hn.1) hn.2 (Nat.le_of_ble_eq_true hle) hl' GR_nil h
        · cases hq
      · cases hq
    · cases hq
  · cases hq

/-! calls -/
def clV (N : Nat) (ops : Array Oper) (L : Slots) (i : Nat) : Option (Nat × FuncId × List Value) :=
  match rdS N ops L i with
  | some (o, d) => match o.op with
    | .call c => match c.callee with
      | .value f => match ev L f, evs L c.args.toList with
        | some (.func (.func fi) fs cs), some vs => some (d, fi, fs.toList ++ vs ++ cs.toList)
        | _, _ => none
      | _ => none
    | _ => none
  | none => none
theorem clV_of {N : Nat} {fi : FuncId} {as : List Value} (h : clV N ops L i = some (d, fi, as)) : ∃ o f args ts fs cs vs, rdS N ops L i = some (o, d) ∧ o.op = .call { callee := .value f, args := args, argTypes := ts } ∧ ev L f = some (.func (.func fi) fs cs) ∧ evs L args.toList = some vs ∧ fs.toList ++ vs ++ cs.toList = as := by
  unfold clV at h
  split at h
  · rename_i o d' ho
    split at h
    · rename_i c hc
      obtain ⟨ce, args, ts⟩ := c
      split at h
      · rename_i f hf
        split at h
        · rename_i fi' fs cs vs h1 h2
          cases h
          dsimp only at hf h2
          subst hf
          exact ⟨o, f, args, ts, fs, cs, vs, ho, hc, h1, h2, rfl⟩
        · cases h
      · cases h
    · cases h
  · cases h
theorem Zc {v : Value} {fi : FuncId} {as : List Value} (hq : clV C.N ops L i = some (d, fi, as)) (hb : runs C.P fi = true)
    (hc : ∀ w, SH C.w0 C.M H w → Con0 C.P fi as w v) (hp : GR C ops ((d, v) :: L) D H pend) (h : GT C ops k ((d, v) :: L) D H n) : GT C ops k L D H (.ld i pend n) := by
  obtain ⟨o, f, args, ts, fs, cs, vs, hr, hop, hf, ha, he⟩ := clV_of hq
  obtain ⟨ho, hd, hN, hg | ⟨j, g, oj, dj, hg, hj, hdj, hl⟩⟩ := rdS_of hr
  · exact GT_call0 ho hop hg hd hN hf ha he hb hc hp h
  · exact GT_call0_g ho hop hg hj hdj hl hd hN hf ha he hb hc hp h
theorem ZC {ι : Type} {Hn : ι → Items} {V : ι → Value} {p : ι → Prop} {fi : FuncId} {as : List Value} (hq : clV C.N ops L i = some (d, fi, as)) (hb : runs C.P fi = true)
    (hc : ∀ w, SH C.w0 C.M H w → Ret C.P fi as.toArray w fun v w' => ∃ x, p x ∧ v = V x ∧ SH w none' (Hn x) w')
    (hp : ∀ x, p x → GR C ops ((d, V x) :: L) D (Hn x ++ H) pend) (h : ∀ x, p x → GT C ops k ((d, V x) :: L) D (Hn x ++ H) n) : GT C ops k L D H (.ld i pend n) := by
  obtain ⟨o, f, args, ts, fs, cs, vs, hr, hop, hf, ha, he⟩ := clV_of hq
  obtain ⟨ho, hd, hN, hg | ⟨j, g, oj, dj, hg, hj, hdj, hl⟩⟩ := rdS_of hr
  · exact GT_call ho hop hg hd hN hf ha he hb hc hp h
  · exact GT_call_g ho hop hg hj hdj hl hd hN hf ha he hb hc hp h
end
end Go.Sx
