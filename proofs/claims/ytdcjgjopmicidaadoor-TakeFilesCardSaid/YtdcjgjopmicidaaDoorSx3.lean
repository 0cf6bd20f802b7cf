/-
  States by what is known of them: L: what the slots that count hold; H: the blocks of the call's own, and what they hold; all other memory is as it was when the call began.
-/
import Derived.Test.YtdcjgjopmicidaaDoorSx2
import Derived.Laws.Sem
import Derived.Laws.World
import Derived.KernelRfl
namespace Go.Sx
open Go.RowKit

abbrev Slots := List (Nat × Value)
abbrev Items := List (Nat × Obj)

structure Cx where
  P : Program
  F : Frame → World → Prop
  b : Frame
  hb : b.kind = .normal
  hm : P.follows .mixedOrders = true
  N : Nat
  w0 : World
  M : Nat → Prop

def look : Slots → Nat → Option Value
  | [], _ => none
  | (k, v) :: r, t => bif Nat.beq k t then some v else look r t

def ev (L : Slots) : Operand → Option Value
  | .tmp t => look L t
  | .const v => some v
  | .global g => some (.pointer (some ⟨g, 0, none⟩))
  | .func f => some (.func (.func f) #[] #[])

def evs (L : Slots) : List Operand → Option (List Value)
  | [] => some []
  | x :: r => match ev L x, evs L r with
    | some v, some vs => some (v :: vs)
    | _, _ => none

structure St (N : Nat) (L : Slots) (D : List Deferred) (a : Act) : Prop where
  size : a.tmps.size = N
  defers : a.defers = D
  slot : ∀ t v, look L t = some v → a.tmps[t]? = some v

/-- What may have turned since w0: the blocks of M, and new ones. The blocks of H hold what H says. -/
structure SH (w0 : World) (M : Nat → Prop) (H : Items) (w : World) : Prop where
  os : w.os = w0.os
  tape : w.tape = w0.tape
  output : w.output = w0.output
  size : w0.heap.size ≤ w.heap.size
  old : ∀ k, k < w0.heap.size → ¬ M k → w.heap[k]? = w0.heap[k]?
  item : ∀ p ∈ H, (w0.heap.size ≤ p.1 ∨ M p.1) ∧ w.heap[p.1]? = some p.2
  nd : (H.map (·.1)).Nodup

def none' : Nat → Prop := fun _ => False

theorem SH.refl (w : World) (M : Nat → Prop) : SH w M [] w := ⟨rfl, rfl, rfl, Nat.le_refl _, fun _ _ _ => rfl, by simp, by simp⟩
theorem SH.drew {w0 : World} {M : Nat → Prop} {H : Items} {w : World} (h : SH w0 M H w) : SH w0 M H { w with drawn := w.drawn + 1 } := ⟨h.os, h.tape, h.output, h.size, h.old, h.item, h.nd⟩
theorem SH.below {w0 : World} {H : Items} {w : World} (h : SH w0 none' H w) : Below w0.heap.size w0 w := ⟨h.os, h.tape, h.output, h.size, fun k hk => h.old k hk (fun e => e)⟩
theorem SH.lt {w0 : World} {M : Nat → Prop} {H : Items} {w : World} (h : SH w0 M H w) {p : Nat × Obj} (hp : p ∈ H) : p.1 < w.heap.size := by
  have := (h.item p hp).2
  rcases Nat.lt_or_ge p.1 w.heap.size with hl | hl
  · exact hl
  · rw [Array.getElem?_eq_none hl] at this; cases this

theorem SH.alloc {w0 : World} {M : Nat → Prop} {H : Items} {w : World} (h : SH w0 M H w) (o : Obj) : SH w0 M ((w.heap.size, o) :: H) { w with heap := w.heap.push o } := by
  refine ⟨h.os, h.tape, h.output, by simp; exact Nat.le_succ_of_le h.size, fun k hk hM => ?_, ?_, ?_⟩
  · rw [← h.old k hk hM]
    exact Array.getElem?_push_lt (Nat.lt_of_lt_of_le hk h.size) ▸ by rw [Array.getElem?_eq_getElem (Nat.lt_of_lt_of_le hk h.size)]
  · intro p hp
    rcases List.mem_cons.1 hp with rfl | hp
    · exact ⟨.inl h.size, by simp⟩
    · obtain ⟨h1, h2⟩ := h.item p hp
      refine ⟨h1, ?_⟩
      rw [Array.getElem?_push, if_neg (by have := h.lt hp; omega)]
      exact h2
  · simp only [List.map_cons, List.nodup_cons]
    refine ⟨fun hm => ?_, h.nd⟩
    obtain ⟨p, hp, he⟩ := List.mem_map.1 hm
    have := h.lt hp
    omega

/-- A call behind which new blocks lie, and nothing else has turned. -/
theorem SH.trans {w0 : World} {M : Nat → Prop} {H Hn : Items} {w w' : World} (h : SH w0 M H w) (hn : SH w none' Hn w') : SH w0 M (Hn ++ H) w' := by
  refine ⟨hn.os.trans h.os, hn.tape.trans h.tape, hn.output.trans h.output, Nat.le_trans h.size hn.size, fun k hk hM => ?_, ?_, ?_⟩
  · rw [hn.old k (Nat.lt_of_lt_of_le hk h.size) (fun e => e), h.old k hk hM]
  · intro p hp
    rcases List.mem_append.1 hp with hp | hp
    · obtain ⟨h1, h2⟩ := hn.item p hp
      rcases h1 with h1 | h1
      · exact ⟨.inl (Nat.le_trans h.size h1), h2⟩
      · exact h1.elim
    · obtain ⟨h1, h2⟩ := h.item p hp
      exact ⟨h1, by rw [hn.old p.1 (h.lt hp) (fun e => e)]; exact h2⟩
  · rw [List.map_append, List.nodup_append]
    refine ⟨hn.nd, h.nd, ?_⟩
    intro x hx y hy e
    subst e
    obtain ⟨p, hp, rfl⟩ := List.mem_map.1 hx
    obtain ⟨q, hq, he⟩ := List.mem_map.1 hy
    have h1 := h.lt hq
    rcases (hn.item p hp).1 with h2 | h2
    · omega
    · exact h2.elim

theorem SH.drop {w0 : World} {M : Nat → Prop} {H H' : Items} {w : World} (h : SH w0 M H w) (hs : ∀ p ∈ H', p ∈ H) (hn : (H'.map (·.1)).Nodup) : SH w0 M H' w :=
  ⟨h.os, h.tape, h.output, h.size, h.old, fun p hp => h.item p (hs p hp), hn⟩

theorem SH.cellOld {w0 : World} {M : Nat → Prop} {H : Items} {w : World} (h : SH w0 M H w) {a : Addr} {v : Value} (hc : w0.cell? a = some v) (hM : ¬ M a.block) : w.cell? a = some v := by
  have hlt : a.block < w0.heap.size := by
    rcases Nat.lt_or_ge a.block w0.heap.size with hl | hl
    · exact hl
    · simp [World.cell?, Array.getElem?_eq_none hl] at hc
  rw [← hc]
  unfold World.cell?
  rw [h.old a.block hlt hM]

/-! ### finding a block -/
class HFind (b : Nat) (H : Items) (o : outParam Obj) : Prop where
  mem : (b, o) ∈ H
instance (priority := high) HFind.head {b : Nat} {o : Obj} {H : Items} : HFind b ((b, o) :: H) o := ⟨by simp⟩
instance HFind.tail {b b' : Nat} {o o' : Obj} {H : Items} [h : HFind b H o] : HFind b ((b', o') :: H) o := ⟨List.mem_cons_of_mem _ h.mem⟩
instance HFind.left {b : Nat} {o : Obj} {H H' : Items} [h : HFind b H o] : HFind b (H ++ H') o := ⟨List.mem_append_left _ h.mem⟩
instance HFind.right {b : Nat} {o : Obj} {H H' : Items} [h : HFind b H' o] : HFind b (H ++ H') o := ⟨List.mem_append_right _ h.mem⟩

/-- Block b taken out of H: it holds o; H' is the rest. -/
class HTake (b : Nat) (H : Items) (o : outParam Obj) (H' : outParam Items) : Prop where
  perm : List.Perm H ((b, o) :: H')
instance (priority := high) HTake.head {b : Nat} {o : Obj} {H : Items} : HTake b ((b, o) :: H) o H := ⟨.refl _⟩
instance HTake.tail {b b' : Nat} {o o' : Obj} {H H' : Items} [h : HTake b H o H'] : HTake b ((b', o') :: H) o ((b', o') :: H') := ⟨((h.perm).cons _).trans (List.Perm.swap ..)⟩
instance HTake.left {b : Nat} {o : Obj} {H H2 H' : Items} [h : HTake b H o H'] : HTake b (H ++ H2) o (H' ++ H2) := ⟨(h.perm).append_right _⟩
instance HTake.right {b : Nat} {o : Obj} {H H2 H' : Items} [h : HTake b H2 o H'] : HTake b (H ++ H2) o (H ++ H') := ⟨((h.perm).append_left _).trans List.perm_middle⟩

theorem SH.perm {w0 : World} {M : Nat → Prop} {H H' : Items} {w : World} (h : SH w0 M H w) (hp : List.Perm H H') : SH w0 M H' w :=
  ⟨h.os, h.tape, h.output, h.size, h.old, fun p hm => h.item p (hp.mem_iff.2 hm), (hp.map _).nodup_iff.1 h.nd⟩

theorem SH.set {w0 : World} {M : Nat → Prop} {H : Items} {w : World} {b : Nat} {o : Obj} (h : SH w0 M ((b, o) :: H) w) (o' : Obj) : SH w0 M ((b, o') :: H) { w with heap := w.heap.setIfInBounds b o' } := by
  have hb := h.lt (p := (b, o)) (by simp)
  have hbm := (h.item (b, o) (by simp)).1
  have hnd := h.nd
  simp only [List.map_cons, List.nodup_cons] at hnd
  refine ⟨h.os, h.tape, h.output, by simpa using h.size, fun k hk hM => ?_, ?_, by simpa using h.nd⟩
  · rw [← h.old k hk hM]
    apply Array.getElem?_setIfInBounds_ne
    intro e
    subst e
    rcases hbm with h1 | h1
    · simp only at h1; omega
    · exact hM h1
  · intro p hp
    rcases List.mem_cons.1 hp with rfl | hp
    · exact ⟨hbm, by simp only at hb; simp [hb]⟩
    · obtain ⟨h1, h2⟩ := h.item p (List.mem_cons_of_mem _ hp)
      refine ⟨h1, ?_⟩
      rw [Array.getElem?_setIfInBounds_ne (fun e => hnd.1 (List.mem_map.2 ⟨p, hp, e.symm⟩))]
      exact h2

/-! ### slots -/
theorem St.put {N : Nat} {L : Slots} {D : List Deferred} {a : Act} {d : Nat} (h : St N L D a) (hd : Nat.blt d N = true) (v : Value) : St N ((d, v) :: L) D (a.put (some d) v) := by
  have hd1 : d + 1 ≤ N := by simpa [Nat.blt] using hd
  have hd' : d < N := hd1
  refine ⟨by rw [put_size]; exact h.size, by rw [put_defers]; exact h.defers, fun t u hu => ?_⟩
  simp only [look] at hu
  cases hb : Nat.beq d t with
  | true =>
    rw [hb, cond_true] at hu
    obtain rfl : d = t := Nat.eq_of_beq_eq_true hb
    cases hu
    simp [Act.put, h.size, hd']
  | false =>
    rw [hb, cond_false] at hu
    rw [put_tmps_other (by intro e; cases e; simp at hb)]
    exact h.slot t u hu

theorem St.eval {N : Nat} {L : Slots} {D : List Deferred} {a : Act} (h : St N L D a) {x : Operand} {v : Value} (hx : ev L x = some v) : a.eval x = v := by
  cases x with
  | tmp t => simp [Act.eval, h.slot t v hx]
  | const u => simpa [ev, Act.eval] using hx
  | global g => simpa [ev, Act.eval] using hx
  | func f => simpa [ev, Act.eval] using hx

theorem St.evals {N : Nat} {L : Slots} {D : List Deferred} {a : Act} (h : St N L D a) : ∀ {xs : List Operand} {vs : List Value}, evs L xs = some vs → xs.map a.eval = vs
  | [], vs, he => by simp [evs] at he; simp [← he]
  | x :: r, vs, he => by
    simp only [evs] at he
    cases h1 : ev L x with
    | none => simp [h1] at he
    | some v =>
      cases h2 : evs L r with
      | none => simp [h1, h2] at he
      | some us =>
        simp [h1, h2] at he
        rw [← he, List.map_cons, h.eval h1, h.evals h2]

def Sub (L : Slots) : Slots → Prop
  | [] => True
  | (k, v) :: r => look L k = some v ∧ Sub L r

theorem Sub.look {L : Slots} : ∀ {L' : Slots}, Sub L L' → ∀ t v, look L' t = some v → Go.Sx.look L t = some v
  | [], _, t, v, hv => by simp [Go.Sx.look] at hv
  | (k, u) :: r, h, t, v, hv => by
    simp only [Go.Sx.look] at hv
    cases hb : Nat.beq k t with
    | true =>
      rw [hb, cond_true] at hv
      obtain rfl : k = t := Nat.eq_of_beq_eq_true hb
      rw [h.1, hv]
    | false =>
      rw [hb, cond_false] at hv
      exact h.2.look t v hv

theorem St.weak {N : Nat} {L L' : Slots} {D : List Deferred} {a : Act} (h : St N L D a) (hs : Sub L L') : St N L' D a := ⟨h.size, h.defers, fun t v hv => h.slot t v (hs.look t v hv)⟩

/-! ### the two judgements -/
def GE (C : Cx) (L : Slots) (D : List Deferred) (H : Items) (k : List Item) : Prop := ∀ a w, St C.N L D a → SH C.w0 C.M H w → E C.P C.F C.b k a w
def GT (C : Cx) (ops : Array Oper) (k : List Item) (L : Slots) (D : List Deferred) (H : Items) (t : Tr) : Prop := ∀ a w, St C.N L D a → SH C.w0 C.M H w → ET C.P C.F C.b k ops t a w

/-- The operation looks, and comes to v. -/
def OpV (C : Cx) (L : Slots) (H : Items) (o : Oper) (v : Value) : Prop := ∀ D a w, St C.N L D a → SH C.w0 C.M H w → (execOp a.eval o).run C.P w = .ok (.value v) w

def nth : List Oper → Nat → Option Oper
  | [], _ => none
  | o :: _, 0 => some o
  | _ :: r, i + 1 => nth r i
def opAt (ops : Array Oper) (i : Nat) : Option Oper := nth ops.toList i
theorem nth_eq : ∀ (l : List Oper) (i : Nat), nth l i = l[i]?
  | [], i => by simp [nth]
  | o :: r, 0 => rfl
  | o :: r, i + 1 => by simp [nth, nth_eq r i]
theorem opAt_eq {ops : Array Oper} {i : Nat} {o : Oper} (h : opAt ops i = some o) : ops[i]? = some o := by
  rw [opAt, nth_eq] at h; simpa using h

section code
variable {C : Cx} {L : Slots} {D : List Deferred} {H : Items} {k : List Item}
theorem GE_skip (h : GE C L D H k) : GE C L D H (.code .skip :: k) := fun a w s m => E_skip (h a w s m)
theorem GE_label {l : Nat} (h : GE C L D H k) : GE C L D H (.code (.label l) :: k) := fun a w s m => E_label (h a w s m)
theorem GE_inBlock {i : Nat} (h : GE C L D H k) : GE C L D H (.inBlock i :: k) := fun a w s m => E_inBlock (h a w s m)
theorem GE_inScope {c : Code} (h : GE C L D H k) : GE C L D H (.inScope c :: k) := fun a w s m => E_inScope (h a w s m)
theorem GE_seq {x y : Code} (h : GE C L D H (.code x :: .code y :: k)) : GE C L D H (.code (.seq x y) :: k) := fun a w s m => E_seq (h a w s m)
theorem GE_block {i : Nat} {c : Code} (h : GE C L D H (.code c :: .inBlock i :: k)) : GE C L D H (.code (.block i c) :: k) := fun a w s m => E_block (h a w s m)
theorem GE_scope {c : Code} (h : GE C L D H (.code c :: .inScope c :: k)) : GE C L D H (.code (.scope c) :: k) := fun a w s m => E_scope (h a w s m)
theorem GE_inLoop {c : Code} (h : GE C L D H (.code c :: .inLoop c :: k)) : GE C L D H (.inLoop c :: k) := fun a w s m => E_inLoop (h a w s m)
theorem GE_exit {i : Nat} {k' : List Item} (hk : exitTo i k = some k') (h : GE C L D H k') : GE C L D H (.code (.exit i) :: k) := fun a w s m => E_exit hk (h a w s m)
theorem GE_goto {l : Nat} {k' : List Item} (hk : gotoIn l k = some k') (h : GE C L D H k') : GE C L D H (.code (.goto l) :: k) := fun a w s m => E_goto hk (h a w s m)
theorem GE_cond_t {c : Operand} {x y : Code} (hc : ev L c = some (.bool true)) (h : GE C L D H (.code x :: k)) : GE C L D H (.code (.cond c x y) :: k) :=
  fun a w s m => E_cond (s.eval hc) (h a w s m)
theorem GE_cond_f {c : Operand} {x y : Code} (hc : ev L c = some (.bool false)) (h : GE C L D H (.code y :: k)) : GE C L D H (.code (.cond c x y) :: k) :=
  fun a w s m => E_cond (s.eval hc) (h a w s m)
/-- A test on a proposition. -/
theorem GE_cond {c : Operand} {x y : Code} {p : Prop} [Decidable p] (hc : ev L c = some (.bool (decide p))) (h1 : p → GE C L D H (.code x :: k)) (h2 : ¬ p → GE C L D H (.code y :: k)) : GE C L D H (.code (.cond c x y) :: k) := by
  intro a w s m
  refine E_cond (s.eval hc) ?_
  by_cases hp : p
  · simp only [hp, decide_true, if_true]; exact h1 hp a w s m
  · simp only [hp, decide_false, Bool.false_eq_true, if_false]; exact h2 hp a w s m
theorem GE_condB {c : Operand} {x y : Code} {b : Bool} (hc : ev L c = some (.bool b)) (h1 : b = true → GE C L D H (.code x :: k)) (h2 : b = false → GE C L D H (.code y :: k)) : GE C L D H (.code (.cond c x y) :: k) := by
  intro a w s m
  refine E_cond (s.eval hc) ?_
  cases b
  · exact h2 rfl a w s m
  · exact h1 rfl a w s m
/-- the same, of a test that says no -/
theorem GE_condNot {c : Operand} {x y : Code} {p : Prop} [Decidable p] (hc : ev L c = some (.bool (decide (¬ p)))) (h1 : ¬ p → GE C L D H (.code x :: k)) (h2 : p → GE C L D H (.code y :: k)) : GE C L D H (.code (.cond c x y) :: k) :=
  GE_cond hc h1 (fun h => h2 (Decidable.not_not.1 h))
theorem GE_condNotB {c : Operand} {x y : Code} {b : Bool} (hc : ev L c = some (.bool (!b))) (h1 : b = false → GE C L D H (.code x :: k)) (h2 : b = true → GE C L D H (.code y :: k)) : GE C L D H (.code (.cond c x y) :: k) :=
  GE_condB hc (fun h => h1 (by simpa using h)) (fun h => h2 (by simpa using h))
theorem GE_weak {L' : Slots} {H' : Items} (hs : Sub L L') (hh : ∀ w, SH C.w0 C.M H w → SH C.w0 C.M H' w) (h : GE C L' D H' k) : GE C L D H k := fun a w s m => h a w (s.weak hs) (hh w m)
theorem GE_slots {L' : Slots} (hs : Sub L L') (h : GE C L' D H k) : GE C L D H k := fun a w s m => h a w (s.weak hs) m
theorem GE_plain {id : Nat} {ops : Array Oper} (t : Tr) (hc : chain ops.size 0 t = true) (h : GT C ops k L D H t) : GE C L D H (.code (.region id ops false) :: k) :=
  fun a w s m => E_plain C.hb t hc (h a w s m)
theorem GE_drawn {id : Nat} {ops : Array Oper} (t : Tr) (louds : List Nat) (hc : (okR ops louds && okT ops louds false [] t && noSel ops) = true) (h : GT C ops k L D H t) : GE C L D H (.code (.region id ops true) :: k) :=
  fun a _ s m => E_drawn C.hb C.hm t hc (h a _ s m.drew)

/-- A loop. x says which state its head is in; every round comes to a lesser one. -/
theorem GE_loop {ι : Type} (m : ι → Nat) (L : ι → Slots) (H : ι → Items) (p : ι → Prop) {c : Code}
    (h : ∀ x, p x → (∀ y, p y → m y < m x → GE C (L y) D (H y) (.inLoop c :: k)) → GE C (L x) D (H x) (.code c :: .inLoop c :: k)) (x : ι) (hx : p x) :
    GE C (L x) D (H x) (.code (.loop c) :: k) := by
  have key : ∀ n x, m x = n → p x → GE C (L x) D (H x) (.code c :: .inLoop c :: k) := by
    intro n
    induction n using Nat.strongRecOn with
    | _ n ih =>
      intro x hn hx
      exact h x hx fun y hy hlt => GE_inLoop (ih (m y) (hn ▸ hlt) y rfl hy)
  exact fun a w s m' => E_loop (key _ x rfl hx a w s m')
end code

/-- H' says no more than H. -/
def HS (_ : Cx) (H H' : Items) : Prop := ∃ R, List.Perm H (H' ++ R)
theorem HS.nil {C : Cx} {H : Items} : HS C H [] := ⟨H, .refl _⟩
theorem HS.cons {C : Cx} {H H1 H' : Items} {b : Nat} {o o' : Obj} [h : HTake b H o H1] (e : o = o') (h' : HS C H1 H') : HS C H ((b, o') :: H') := by
  obtain ⟨R, hR⟩ := h'
  subst e
  exact ⟨R, h.perm.trans (hR.cons _)⟩
theorem HS.all {C : Cx} {H : Items} : HS C H H := ⟨[], by simp⟩
theorem HS.sh {C : Cx} {H H' : Items} (h : HS C H H') : ∀ w, SH C.w0 C.M H w → SH C.w0 C.M H' w := by
  obtain ⟨R, hR⟩ := h
  intro _ hw
  have := hw.perm hR
  exact this.drop (fun p hp => List.mem_append_left _ hp) (by have := this.nd; rw [List.map_append] at this; exact (List.nodup_append.1 this).1)
theorem GE_to {C : Cx} {L L' : Slots} {D : List Deferred} {H H' : Items} {k : List Item} (h : GE C L' D H' k) (hs : Sub L L') (hh : HS C H H') : GE C L D H k := GE_weak hs hh.sh h

/-! ### a region's operations -/
section region
variable {C : Cx} {L : Slots} {D : List Deferred} {H : Items} {k : List Item} {ops : Array Oper} {i : Nat} {o : Oper} {n : Tr} {pend : List Nat}

theorem GT_nil (h : GE C L D H k) : GT C ops k L D H .nil := h
theorem GT_slots {L' : Slots} (hs : Sub L L') (h : GT C ops k L' D H n) : GT C ops k L D H n := fun a w s m => h a w (s.weak hs) m
theorem GT_br {l r : Tr} (h1 : GT C ops k L D H l) (h2 : GT C ops k L D H r) : GT C ops k L D H (.br l r) := fun a w s m => ⟨h1 a w s m, h2 a w s m⟩

theorem wanted_none (hg : o.guard = none) (y : Nat → Option Bool) : Region.wanted o y = true := by simp [Region.wanted, hg]

theorem GT_st {d : Nat} {v : Value} (ho : opAt ops i = some o) (hg : o.guard = none) (hd : o.dst = some d) (hN : Nat.blt d C.N = true) (hv : OpV C L H o v)
    (h : GT C ops k ((d, v) :: L) D H n) : GT C ops k L D H (.st i n) := fun a w s m =>
  ⟨o, opAt_eq ho, fun _ => ⟨v, hv D a w s m, by rw [hd]; exact h _ _ (s.put hN v) m⟩, fun hf => by rw [wanted_none hg] at hf; cases hf⟩

def boolOf : Value → Option Bool
  | .bool b => some b
  | _ => none
theorem yielded_of {a : Act} {N j d : Nat} {oj : Oper} {v : Value} (s : St N L D a) (hj : opAt ops j = some oj) (hd : oj.dst = some d) (hv : look L d = some v) :
    yielded ops a.tmps j = boolOf v := by
  have := s.slot d v hv
  simp only [yielded, opAt_eq hj, Option.bind_some, hd, this]
  cases v <;> rfl

/-- A guarded operation that is wanted. -/
theorem GT_st_g {d j dj : Nat} {v : Value} {g : Bool} {oj : Oper} (ho : opAt ops i = some o) (hg : o.guard = some (j, g)) (hj : opAt ops j = some oj) (hdj : oj.dst = some dj) (hl : look L dj = some (.bool g))
    (hd : o.dst = some d) (hN : Nat.blt d C.N = true) (hv : OpV C L H o v) (h : GT C ops k ((d, v) :: L) D H n) : GT C ops k L D H (.st i n) := fun a w s m =>
  ⟨o, opAt_eq ho, fun _ => ⟨v, hv D a w s m, by rw [hd]; exact h _ _ (s.put hN v) m⟩, fun hf => by simp [Region.wanted, hg, yielded_of s hj hdj hl, boolOf] at hf⟩
/-- A guarded operation that is passed over: the guard says no, or was passed over itself. -/
theorem GT_skip {d j dj : Nat} {u : Value} {g : Bool} {oj : Oper} (ho : opAt ops i = some o) (hg : o.guard = some (j, g)) (hj : opAt ops j = some oj) (hdj : oj.dst = some dj) (hl : look L dj = some u)
    (hu : boolOf u ≠ some g) (hd : o.dst = some d) (hN : Nat.blt d C.N = true) (h : GT C ops k ((d, undef) :: L) D H n) : GT C ops k L D H (.st i n) := fun a w s m =>
  ⟨o, opAt_eq ho, fun hw => by
    simp only [Region.wanted, hg, yielded_of s hj hdj hl] at hw
    exact absurd (by simpa using hw) hu, fun _ => by rw [hd]; exact h _ _ (s.put hN _) m⟩
theorem GT_skip_ld {d j dj : Nat} {u : Value} {g : Bool} {oj : Oper} (ho : opAt ops i = some o) (hg : o.guard = some (j, g)) (hj : opAt ops j = some oj) (hdj : oj.dst = some dj) (hl : look L dj = some u)
    (hu : boolOf u ≠ some g) (hd : o.dst = some d) (hN : Nat.blt d C.N = true) (hq : Oper.isDefer o = false)
    (hp : ∀ a w, St C.N ((d, undef) :: L) D a → SH C.w0 C.M H w → ∀ j ∈ pend, Rc C.P ops j a w) (h : GT C ops k ((d, undef) :: L) D H n) : GT C ops k L D H (.ld i pend n) := fun a w s m =>
  ⟨o, opAt_eq ho, hq, fun hw => by
    simp only [Region.wanted, hg, yielded_of s hj hdj hl] at hw
    exact absurd (by simpa using hw) hu, fun _ => by rw [hd]; exact ⟨hp _ _ (s.put hN _) m, h _ _ (s.put hN _) m⟩⟩

/-- A test's outcome, taken apart. -/
theorem GT_split {d : Nat} {p : Prop} [Decidable p] (hl : look L d = some (.bool (decide p))) (h1 : p → GT C ops k ((d, .bool true) :: L) D H n) (h2 : ¬ p → GT C ops k ((d, .bool false) :: L) D H n) : GT C ops k L D H n := by
  intro a w s m
  have key : ∀ b, decide p = b → St C.N ((d, .bool b) :: L) D a := fun b e => ⟨s.size, s.defers, fun t v hv => by
    simp only [look] at hv
    cases hb : Nat.beq d t with
    | true =>
      rw [hb, cond_true] at hv
      obtain rfl : d = t := Nat.eq_of_beq_eq_true hb
      rw [← e] at hv
      exact (s.slot d _ hl).trans hv
    | false => rw [hb, cond_false] at hv; exact s.slot t v hv⟩
  by_cases hp : p
  · exact h1 hp a w (key _ (by simp [hp])) m
  · exact h2 hp a w (key _ (by simp [hp])) m
theorem GT_splitB {d : Nat} {b : Bool} (hl : look L d = some (.bool b)) (h1 : b = true → GT C ops k ((d, .bool true) :: L) D H n) (h2 : b = false → GT C ops k ((d, .bool false) :: L) D H n) : GT C ops k L D H n := by
  intro a w s m
  have key : St C.N ((d, .bool b) :: L) D a := ⟨s.size, s.defers, fun t v hv => by
    simp only [look] at hv
    cases hb : Nat.beq d t with
    | true =>
      rw [hb, cond_true] at hv
      obtain rfl : d = t := Nat.eq_of_beq_eq_true hb
      exact (s.slot d _ hl).trans hv
    | false => rw [hb, cond_false] at hv; exact s.slot t v hv⟩
  cases b
  · exact h2 rfl a w key m
  · exact h1 rfl a w key m

theorem GT_splitNot {d : Nat} {p : Prop} [Decidable p] (hl : look L d = some (.bool (decide (¬ p)))) (h1 : ¬ p → GT C ops k ((d, .bool true) :: L) D H n) (h2 : p → GT C ops k ((d, .bool false) :: L) D H n) : GT C ops k L D H n :=
  GT_split hl h1 (fun h => h2 (Decidable.not_not.1 h))
theorem GT_splitNotB {d : Nat} {b : Bool} (hl : look L d = some (.bool (!b))) (h1 : b = false → GT C ops k ((d, .bool true) :: L) D H n) (h2 : b = true → GT C ops k ((d, .bool false) :: L) D H n) : GT C ops k L D H n :=
  GT_splitB hl (fun h => h1 (by simpa using h)) (fun h => h2 (by simpa using h))

/-! what has looked already looks the same -/
def GR (C : Cx) (ops : Array Oper) (L : Slots) (D : List Deferred) (H : Items) (pend : List Nat) : Prop := ∀ a w, St C.N L D a → SH C.w0 C.M H w → ∀ j ∈ pend, Rc C.P ops j a w
theorem GR_nil : GR C ops L D H [] := fun _ _ _ _ j hj => by cases hj
theorem St.same {a : Act} {N d : Nat} {v : Value} (s : St N L D a) (hl : look L d = some v) : a.put (some d) v = a :=
  put_same_of fun t ht _ => by cases ht; exact s.slot d v hl
theorem GR_cons {j d : Nat} {v : Value} (ho : opAt ops j = some o) (hg : o.guard = none) (hd : o.dst = some d) (hl : look L d = some v) (hv : OpV C L H o v) (h : GR C ops L D H pend) : GR C ops L D H (j :: pend) := by
  intro a w s m x hx
  rcases List.mem_cons.1 hx with rfl | hx
  · intro o' ho'
    rw [opAt_eq ho] at ho'; cases ho'
    refine ⟨fun _ => ⟨v, hv D a w s m, by rw [hd]; exact s.same hl⟩, fun hf => ?_⟩
    rw [wanted_none hg] at hf; cases hf
  · exact h a w s m x hx
theorem GR_cons_g {j d q dj : Nat} {v : Value} {g : Bool} {oj : Oper} (ho : opAt ops j = some o) (hg : o.guard = some (q, g)) (hj : opAt ops q = some oj) (hdj : oj.dst = some dj) (hlj : look L dj = some (.bool g)) (hd : o.dst = some d) (hl : look L d = some v) (hv : OpV C L H o v) (h : GR C ops L D H pend) : GR C ops L D H (j :: pend) := by
  intro a w s m x hx
  rcases List.mem_cons.1 hx with rfl | hx
  · intro o' ho'
    rw [opAt_eq ho] at ho'; cases ho'
    refine ⟨fun _ => ⟨v, hv D a w s m, by rw [hd]; exact s.same hl⟩, fun hf => ?_⟩
    simp [Region.wanted, hg, yielded_of s hj hdj hlj, boolOf] at hf
  · exact h a w s m x hx
theorem GR_skip {j d q dj : Nat} {u : Value} {g : Bool} {oj : Oper} (ho : opAt ops j = some o) (hg : o.guard = some (q, g)) (hj : opAt ops q = some oj) (hdj : oj.dst = some dj) (hlj : look L dj = some u)
    (hu : boolOf u ≠ some g) (hd : o.dst = some d) (hl : look L d = some undef) (h : GR C ops L D H pend) : GR C ops L D H (j :: pend) := by
  intro a w s m x hx
  rcases List.mem_cons.1 hx with rfl | hx
  · intro o' ho'
    rw [opAt_eq ho] at ho'; cases ho'
    refine ⟨fun hw => ?_, fun _ => by rw [hd]; exact s.same hl⟩
    simp only [Region.wanted, hg, yielded_of s hj hdj hlj] at hw
    exact absurd (by simpa using hw) hu
  · exact h a w s m x hx

/-- What acts. -/
theorem GT_ld (ho : opAt ops i = some o) (hg : o.guard = none) (hq : Oper.isDefer o = false)
    (h : ∀ a w, St C.N L D a → SH C.w0 C.M H w → NextOk C.P ((execOp a.eval o).run C.P w) fun v w' => ∃ L' H', St C.N L' D (a.put o.dst v) ∧ SH C.w0 C.M H' w' ∧ GR C ops L' D H' pend ∧ GT C ops k L' D H' n) :
    GT C ops k L D H (.ld i pend n) := fun a w s m =>
  ⟨o, opAt_eq ho, hq, fun _ => (h a w s m).mono fun v w' ⟨L', H', s', m', hr, ht⟩ => ⟨hr _ _ s' m', ht _ _ s' m'⟩, fun hf => by rw [wanted_none hg] at hf; cases hf⟩
theorem GT_ld_g {j dj : Nat} {g : Bool} {oj : Oper} (ho : opAt ops i = some o) (hg : o.guard = some (j, g)) (hj : opAt ops j = some oj) (hdj : oj.dst = some dj) (hl : look L dj = some (.bool g)) (hq : Oper.isDefer o = false)
    (h : ∀ a w, St C.N L D a → SH C.w0 C.M H w → NextOk C.P ((execOp a.eval o).run C.P w) fun v w' => ∃ L' H', St C.N L' D (a.put o.dst v) ∧ SH C.w0 C.M H' w' ∧ GR C ops L' D H' pend ∧ GT C ops k L' D H' n) :
    GT C ops k L D H (.ld i pend n) := fun a w s m =>
  ⟨o, opAt_eq ho, hq, fun _ => (h a w s m).mono fun v w' ⟨L', H', s', m', hr, ht⟩ => ⟨hr _ _ s' m', ht _ _ s' m'⟩, fun hf => by simp [Region.wanted, hg, yielded_of s hj hdj hl, boolOf] at hf⟩
end region

/-! ### the end of a call -/
def RV (C : Cx) (L : Slots) (H : Items) : ResultVar → Value → Prop
  | .tmp t, v => look L t = some v
  | .cell t ty, v => ∃ ad, look L t = some (.pointer (some ad)) ∧ ∀ w, SH C.w0 C.M H w → (loadVar ty ad).run C.P w = .ok v w

theorem RV.run {C : Cx} {L : Slots} {D : List Deferred} {H : Items} {r : ResultVar} {v : Value} (h : RV C L H r v) {a : Act} {w : World} (s : St C.N L D a) (m : SH C.w0 C.M H w) :
    (match r with | .tmp t => (pure (a.tmps.getD t undef) : Sem Value) | .cell t ty => do loadVar ty (← asAddr (a.tmps.getD t undef))).run C.P w = .ok v w := by
  cases r with
  | tmp t => simp [s.slot t v h]
  | cell t ty =>
    obtain ⟨ad, hl, hr⟩ := h
    simp [s.slot t _ hl, asAddr, hr w m]

/-- The value of a call: the results, as many as there are. -/
def RVs (C : Cx) (L : Slots) (H : Items) (rs : Array ResultVar) (v : Value) : Prop :=
  match rs.toList with
  | [] => v = .tuple #[]
  | [r] => RV C L H r v
  | [r, s] => ∃ x y, RV C L H r x ∧ RV C L H s y ∧ v = .tuple #[x, y]
  | [r, s, t] => ∃ x y z, RV C L H r x ∧ RV C L H s y ∧ RV C L H t z ∧ v = .tuple #[x, y, z]
  | [r, s, t, u] => ∃ x y z q, RV C L H r x ∧ RV C L H s y ∧ RV C L H t z ∧ RV C L H u q ∧ v = .tuple #[x, y, z, q]
  | _ => False

theorem RVs.run {C : Cx} {L : Slots} {D : List Deferred} {H : Items} {fn : Func} {v : Value} (h : RVs C L H fn.results v) {a : Act} {w : World} (s : St C.N L D a) (m : SH C.w0 C.M H w) : (results fn a.tmps).run C.P w = .ok v w := by
  unfold results
  generalize fn.results = rs at h
  obtain ⟨l⟩ := rs
  rcases l with _ | ⟨r1, _ | ⟨r2, _ | ⟨r3, _ | ⟨r4, _ | ⟨r5, l⟩⟩⟩⟩⟩
  · simp only [RVs] at h; subst h; simp
  · simp only [RVs] at h
    have := RV.run h s m
    simp
    cases r1 <;> simp_all
  · obtain ⟨x, y, h1, h2, rfl⟩ := h
    have e1 := RV.run h1 s m
    have e2 := RV.run h2 s m
    simp
    cases r1 <;> cases r2 <;> simp_all
  · obtain ⟨x, y, z, h1, h2, h3, rfl⟩ := h
    have e1 := RV.run h1 s m
    have e2 := RV.run h2 s m
    have e3 := RV.run h3 s m
    simp
    cases r1 <;> cases r2 <;> cases r3 <;> simp_all
  · obtain ⟨x, y, z, q, h1, h2, h3, h4, rfl⟩ := h
    have e1 := RV.run h1 s m
    have e2 := RV.run h2 s m
    have e3 := RV.run h3 s m
    have e4 := RV.run h4 s m
    simp
    cases r1 <;> cases r2 <;> cases r3 <;> cases r4 <;> simp_all
  · simp [RVs] at h

/-- A call's surroundings. -/
abbrev cx (P : Program) (hm : P.follows .mixedOrders = true) (f N : Nat) (w0 : World) (M : Nat → Prop) (R : Value → World → Prop) : Cx :=
  { P := P, F := FinOf P f R, b := base f, hb := rfl, hm := hm, N := N, w0 := w0, M := M }

section ends
variable {P : Program} {hm : P.follows .mixedOrders = true} {f N : Nat} {w0 : World} {M : Nat → Prop} {R : Value → World → Prop} {L : Slots} {H : Items} {k : List Item} {fn : Func} {v : Value}
theorem GE_ret (hf : P.funcs[f]? = some fn) (hv : RVs (cx P hm f N w0 M R) L H fn.results v) (hR : ∀ w, SH w0 M H w → R v w) : GE (cx P hm f N w0 M R) L [] H (.code .ret :: k) := by
  intro a w s m
  refine E_ret (b := base f) rfl rfl hf ?_
  rw [s.defers]
  exact ⟨v, hv.run s m, hR w m⟩
theorem GE_end (hf : P.funcs[f]? = some fn) (hv : RVs (cx P hm f N w0 M R) L H fn.results v) (hR : ∀ w, SH w0 M H w → R v w) : GE (cx P hm f N w0 M R) L [] H [] := by
  intro a w s m
  refine E_nil (b := base f) rfl rfl hf ?_
  rw [s.defers]
  exact ⟨v, hv.run s m, hR w m⟩
/-- a frame in which a range-over-func loop has run -/
theorem GE_ret1 {r : Nat} {x : Array Value} {H' : Items} [ht : HTake r H (.deferred (some [])) H'] (hf : P.funcs[f]? = some fn) (hv : RVs (cx P hm f N w0 M R) L H' fn.results v) (hR : ∀ w, SH w0 M H' w → R v w) :
    GE (cx P hm f N w0 M R) L [{ target := .collected r, args := x }] H (.code .ret :: k) := by
  intro a w s m
  refine E_ret (b := base f) rfl rfl hf ?_
  rw [s.defers]
  have m' := m.perm ht.perm
  have m2 : SH w0 M H' { w with heap := w.heap.setIfInBounds r (.deferred none) } := (m'.set (.deferred none)).drop (fun p hp => List.mem_cons_of_mem _ hp) (by have := m'.nd; simp only [List.map_cons, List.nodup_cons] at this; exact this.2)
  exact ⟨(m'.item _ (List.mem_cons_self ..)).2, v, hv.run s m2, hR _ m2⟩
theorem GE_end1 {r : Nat} {x : Array Value} {H' : Items} [ht : HTake r H (.deferred (some [])) H'] (hf : P.funcs[f]? = some fn) (hv : RVs (cx P hm f N w0 M R) L H' fn.results v) (hR : ∀ w, SH w0 M H' w → R v w) :
    GE (cx P hm f N w0 M R) L [{ target := .collected r, args := x }] H [] := by
  intro a w s m
  refine E_nil (b := base f) rfl rfl hf ?_
  rw [s.defers]
  have m' := m.perm ht.perm
  have m2 : SH w0 M H' { w with heap := w.heap.setIfInBounds r (.deferred none) } := (m'.set (.deferred none)).drop (fun p hp => List.mem_cons_of_mem _ hp) (by have := m'.nd; simp only [List.map_cons, List.nodup_cons] at this; exact this.2)
  exact ⟨(m'.item _ (List.mem_cons_self ..)).2, v, hv.run s m2, hR _ m2⟩

def slotsOf : Nat → List Value → Slots
  | _, [] => []
  | i, v :: r => (i, v) :: slotsOf (i + 1) r
theorem slotsOf_look : ∀ (vs : List Value) (i t : Nat) (v : Value), look (slotsOf i vs) t = some v → i ≤ t ∧ vs[t - i]? = some v
  | [], i, t, v, h => by simp [slotsOf, look] at h
  | u :: r, i, t, v, h => by
    simp only [slotsOf, look] at h
    cases hb : Nat.beq i t with
    | true =>
      rw [hb, cond_true] at h
      obtain rfl : i = t := Nat.eq_of_beq_eq_true hb
      cases h
      simp
    | false =>
      rw [hb, cond_false] at h
      obtain ⟨h1, h2⟩ := slotsOf_look r (i + 1) t v h
      refine ⟨by omega, ?_⟩
      have e : t - i = (t - (i + 1)) + 1 := by omega
      rw [e, List.getElem?_cons_succ]; exact h2

/-- A function's body, from its beginning. -/
theorem Ret_of {c : Code} {vs : List Value} (hm : P.follows .mixedOrders = true) (M : Nat → Prop) (hf : P.funcs[f]? = some fn) (hb : fn.body = some c) (hN : fn.ntmps = N) (hle0 : Nat.ble vs.length N = true)
    (h : GE (cx P hm f N w0 M R) (slotsOf 0 vs) [] [] [.code c]) : Ret P f vs.toArray w0 R := by
  have hle : vs.length ≤ N := Nat.le_of_ble_eq_true hle0
  refine Ret_of_E hf hb (h _ w0 ⟨?_, rfl, fun t v hv => ?_⟩ (SH.refl w0 M))
  · simp [hN]; omega
  · obtain ⟨_, h2⟩ := slotsOf_look vs 0 t v hv
    simp only [Nat.sub_zero] at h2
    have hlt : t < vs.length := (List.getElem?_eq_some_iff.1 h2).1
    rw [Array.getElem?_append_left (by simpa using hlt)]
    simpa using h2
end ends
end Go.Sx
