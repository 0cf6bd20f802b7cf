/- Texts of this proof, one behind the other: Sx3, Sx4. -/
import Derived.Test.YtncleikbggjmjaaGreatDoorMt6
import Derived.Laws.Sem
import Derived.Laws.World
import Derived.KernelRfl
/-
  States by what is known of them: L: what the slots that count hold; H: the blocks of the call's own, and what they hold; all other memory is as it was when the call began.
-/
namespace Go.Sx
open Go.RowKit
abbrev Slots := List (Nat × Value)
abbrev Items := List (Nat × Obj)
structure Cx where
  P : Program
  F : Frame → World → Prop
  b : Frame
  hb : b.kind = .normal
  hm : P.follows .mixedOrders = true
  N : Nat
  w0 : World
  M : Nat → Prop
def look : Slots → Nat → Option Value
  | [], _ => none
  | (k, v) :: r, t => bif Nat.beq k t then some v else look r t
def ev (L : Slots) : Operand → Option Value
  | .tmp t => look L t
  | .const v => some v
  | .global g => some (.pointer (some ⟨g, 0, none⟩))
  | .func f => some (.func (.func f) #[] #[])
def evs (L : Slots) : List Operand → Option (List Value)
  | [] => some []
  | x :: r => match ev L x, evs L r with
    | some v, some vs => some (v :: vs)
    | _, _ => none
structure St (N : Nat) (L : Slots) (D : List Deferred) (a : Act) : Prop where
  size : a.tmps.size = N
  defers : a.defers = D
  slot : ∀ t v, look L t = some v → a.tmps[t]? = some v
structure SH (w0 : World) (M : Nat → Prop) (H : Items) (w : World) : Prop where
  os : w.os = w0.os
  tape : w.tape = w0.tape
  output : w.output = w0.output
  size : w0.heap.size ≤ w.heap.size
  old : ∀ k, k < w0.heap.size → ¬ M k → w.heap[k]? = w0.heap[k]?
  item : ∀ p ∈ H, (w0.heap.size ≤ p.1 ∨ M p.1) ∧ w.heap[p.1]? = some p.2
  nd : (H.map (·.1)).Nodup
def none' : Nat → Prop := fun _ => False
theorem SH.refl (w : World) (M : Nat → Prop) : SH w M [] w := ⟨rfl, rfl, rfl, Nat.le_refl _, fun _ _ _ => rfl, by simp, by simp⟩
theorem SH.drew {w0 : World} {M : Nat → Prop} {H : Items} {w : World} (h : SH w0 M H w) : SH w0 M H { w with drawn := w.drawn + 1 } := ⟨h.os, h.tape, h.output, h.size, h.old, h.item, h.nd⟩
theorem SH.below {w0 : World} {H : Items} {w : World} (h : SH w0 none' H w) : Below w0.heap.size w0 w := ⟨h.os, h.tape, h.output, h.size, fun k hk => h.old k hk (fun e => e)⟩
theorem SH.lt {w0 : World} {M : Nat → Prop} {H : Items} {w : World} (h : SH w0 M H w) {p : Nat × Obj} (hp : p ∈ H) : p.1 < w.heap.size := by
  have := (h.item p hp).2
  rcases Nat.lt_or_ge p.1 w.heap.size with hl | hl
  · exact hl
  · rw [Array.getElem?_eq_none hl] at this; cases this
theorem SH.alloc {w0 : World} {M : Nat → Prop} {H : Items} {w : World} (h : SH w0 M H w) (o : Obj) : SH w0 M ((w.heap.size, o) :: H) { w with heap := w.heap.push o } := by
  refine ⟨h.os, h.tape, h.output, by simp; exact Nat.le_succ_of_le h.size, fun k hk hM => ?_, ?_, ?_⟩
  · rw [← h.old k hk hM]
    exact Array.getElem?_push_lt (Nat.lt_of_lt_of_le hk h.size) ▸ by rw [Array.getElem?_eq_getElem (Nat.lt_of_lt_of_le hk h.size)]
  · intro p hp
    rcases List.mem_cons.1 hp with rfl | hp
    · exact ⟨.inl h.size, by simp⟩
    · obtain ⟨h1, h2⟩ := h.item p hp
      refine ⟨h1, ?_⟩
      rw [Array.getElem?_push, if_neg (by have := h.lt hp; omega)]
      exact h2
  · simp only [List.map_cons, List.nodup_cons]
    refine ⟨fun hm => ?_, h.nd⟩
    obtain ⟨p, hp, he⟩ := List.mem_map.1 hm
    have := h.lt hp
    omega
theorem SH.trans {w0 : World} {M : Nat → Prop} {H Hn : Items} {w w' : World} (h : SH w0 M H w) (hn : SH w none' Hn w') : SH w0 M (Hn ++ H) w' := by
  refine ⟨hn.os.trans h.os, hn.tape.trans h.tape, hn.output.trans h.output, Nat.le_trans h.size hn.size, fun k hk hM => ?_, ?_, ?_⟩
  · rw [hn.old k (Nat.lt_of_lt_of_le hk h.size) (fun e => e), h.old k hk hM]
  · intro p hp
    rcases List.mem_append.1 hp with hp | hp
    · obtain ⟨h1, h2⟩ := hn.item p hp
      rcases h1 with h1 | h1
      · exact ⟨.inl (Nat.le_trans h.size h1), h2⟩
      · exact h1.elim
    · obtain ⟨h1, h2⟩ := h.item p hp
      exact ⟨h1, by rw [hn.old p.1 (h.lt hp) (fun e => e)]; exact h2⟩
  · rw [List.map_append, List.nodup_append]
    refine ⟨hn.nd, h.nd, ?_⟩
    intro x hx y hy e
    subst e
    obtain ⟨p, hp, rfl⟩ := List.mem_map.1 hx
    obtain ⟨q, hq, he⟩ := List.mem_map.1 hy
    have h1 := h.lt hq
    rcases (hn.item p hp).1 with h2 | h2
    · omega
    · exact h2.elim
theorem SH.drop {w0 : World} {M : Nat → Prop} {H H' : Items} {w : World} (h : SH w0 M H w) (hs : ∀ p ∈ H', p ∈ H) (hn : (H'.map (·.1)).Nodup) : SH w0 M H' w :=
  ⟨h.os, h.tape, h.output, h.size, h.old, fun p hp => h.item p (hs p hp), hn⟩
theorem SH.cellOld {w0 : World} {M : Nat → Prop} {H : Items} {w : World} (h : SH w0 M H w) {a : Addr} {v : Value} (hc : w0.cell? a = some v) (hM : ¬ M a.block) : w.cell? a = some v := by
  have hlt : a.block < w0.heap.size := by
    rcases Nat.lt_or_ge a.block w0.heap.size with hl | hl
    · exact hl
    · simp [World.cell?, Array.getElem?_eq_none hl] at hc
  rw [← hc]
  unfold World.cell?
  rw [h.old a.block hlt hM]
/-! ### finding a block -/
class HFind (b : Nat) (H : Items) (o : outParam Obj) : Prop where
  mem : (b, o) ∈ H
instance (priority := high) HFind.head {b : Nat} {o : Obj} {H : Items} : HFind b ((b, o) :: H) o := ⟨by simp⟩
instance HFind.tail {b b' : Nat} {o o' : Obj} {H : Items} [h : HFind b H o] : HFind b ((b', o') :: H) o := ⟨List.mem_cons_of_mem _ h.mem⟩
instance HFind.left {b : Nat} {o : Obj} {H H' : Items} [h : HFind b H o] : HFind b (H ++ H') o := ⟨List.mem_append_left _ h.mem⟩
instance HFind.right {b : Nat} {o : Obj} {H H' : Items} [h : HFind b H' o] : HFind b (H ++ H') o := ⟨List.mem_append_right _ h.mem⟩
class HTake (b : Nat) (H : Items) (o : outParam Obj) (H' : outParam Items) : Prop where
  perm : List.Perm H ((b, o) :: H')
instance (priority := high) HTake.head {b : Nat} {o : Obj} {H : Items} : HTake b ((b, o) :: H) o H := ⟨.refl _⟩
instance HTake.tail {b b' : Nat} {o o' : Obj} {H H' : Items} [h : HTake b H o H'] : HTake b ((b', o') :: H) o ((b', o') :: H') := ⟨((h.perm).cons _).trans (List.Perm.swap ..)⟩
instance HTake.left {b : Nat} {o : Obj} {H H2 H' : Items} [h : HTake b H o H'] : HTake b (H ++ H2) o (H' ++ H2) := ⟨(h.perm).append_right _⟩
instance HTake.right {b : Nat} {o : Obj} {H H2 H' : Items} [h : HTake b H2 o H'] : HTake b (H ++ H2) o (H ++ H') := ⟨((h.perm).append_left _).trans List.perm_middle⟩
theorem SH.perm {w0 : World} {M : Nat → Prop} {H H' : Items} {w : World} (h : SH w0 M H w) (hp : List.Perm H H') : SH w0 M H' w :=
  ⟨h.os, h.tape, h.output, h.size, h.old, fun p hm => h.item p (hp.mem_iff.2 hm), (hp.map _).nodup_iff.1 h.nd⟩
theorem SH.set {w0 : World} {M : Nat → Prop} {H : Items} {w : World} {b : Nat} {o : Obj} (h : SH w0 M ((b, o) :: H) w) (o' : Obj) : SH w0 M ((b, o') :: H) { w with heap := w.heap.setIfInBounds b o' } := by
  have hb := h.lt (p := (b, o)) (by simp)
  have hbm := (h.item (b, o) (by simp)).1
  have hnd := h.nd
  simp only [List.map_cons, List.nodup_cons] at hnd
  refine ⟨h.os, h.tape, h.output, by simpa using h.size, fun k hk hM => ?_, ?_, by simpa using h.nd⟩
  · rw [← h.old k hk hM]
    apply Array.getElem?_setIfInBounds_ne
    intro e
    subst e
    rcases hbm with h1 | h1
    · simp only at h1; omega
    · exact hM h1
  · intro p hp
    rcases List.mem_cons.1 hp with rfl | hp
    · exact ⟨hbm, by simp only at hb; simp [hb]⟩
    · obtain ⟨h1, h2⟩ := h.item p (List.mem_cons_of_mem _ hp)
      refine ⟨h1, ?_⟩
      rw [Array.getElem?_setIfInBounds_ne (fun e => hnd.1 (List.mem_map.2 ⟨p, hp, e.symm⟩))]
      exact h2
/-! ### slots -/
theorem St.put {N : Nat} {L : Slots} {D : List Deferred} {a : Act} {d : Nat} (h : St N L D a) (hd : Nat.blt d N = true) (v : Value) : St N ((d, v) :: L) D (a.put (some d) v) := by
  have hd1 : d + 1 ≤ N := by simpa [Nat.blt] using hd
  have hd' : d < N := hd1
  refine ⟨by rw [put_size]; exact h.size, by rw [put_defers]; exact h.defers, fun t u hu => ?_⟩
  simp only [look] at hu
  cases hb : Nat.beq d t with
  | true =>
    rw [hb, cond_true] at hu
    obtain rfl : d = t := Nat.eq_of_beq_eq_true hb
    cases hu
    simp [Act.put, h.size, hd']
  | false =>
    rw [hb, cond_false] at hu
    rw [put_tmps_other (by intro e; cases e; simp at hb)]
    exact h.slot t u hu
theorem St.eval {N : Nat} {L : Slots} {D : List Deferred} {a : Act} (h : St N L D a) {x : Operand} {v : Value} (hx : ev L x = some v) : a.eval x = v := by
  cases x with
  | tmp t => simp [Act.eval, h.slot t v hx]
  | const u => simpa [ev, Act.eval] using hx
  | global g => simpa [ev, Act.eval] using hx
  | func f => simpa [ev, Act.eval] using hx
theorem St.evals {N : Nat} {L : Slots} {D : List Deferred} {a : Act} (h : St N L D a) : ∀ {xs : List Operand} {vs : List Value}, evs L xs = some vs → xs.map a.eval = vs
  | [], vs, he => by simp [evs] at he; simp [← he]
  | x :: r, vs, he => by
    simp only [evs] at he
    cases h1 : ev L x with
    | none => simp [h1] at he
    | some v =>
      cases h2 : evs L r with
      | none => simp [h1, h2] at he
      | some us =>
        simp [h1, h2] at he
        rw [← he, List.map_cons, h.eval h1, h.evals h2]
def Sub (L : Slots) : Slots → Prop
  | [] => True
  | (k, v) :: r => look L k = some v ∧ Sub L r
theorem Sub.look {L : Slots} : ∀ {L' : Slots}, Sub L L' → ∀ t v, look L' t = some v → Go.Sx.look L t = some v
  | [], _, t, v, hv => by simp [Go.Sx.look] at hv
  | (k, u) :: r, h, t, v, hv => by
    simp only [Go.Sx.look] at hv
    cases hb : Nat.beq k t with
    | true =>
      rw [hb, cond_true] at hv
      obtain rfl : k = t := Nat.eq_of_beq_eq_true hb
      rw [h.1, hv]
    | false =>
      rw [hb, cond_false] at hv
      exact h.2.look t v hv
theorem St.weak {N : Nat} {L L' : Slots} {D : List Deferred} {a : Act} (h : St N L D a) (hs : Sub L L') : St N L' D a := ⟨h.size, h.defers, fun t v hv => h.slot t v (hs.look t v hv)⟩
/-! ### the two judgements -/
def GE (C : Cx) (L : Slots) (D : List Deferred) (H : Items) (k : List Item) : Prop := ∀ a w, St C.N L D a → SH C.w0 C.M H w → E C.P C.F C.b k a w
def GT (C : Cx) (ops : Array Oper) (k : List Item) (L : Slots) (D : List Deferred) (H : Items) (t : Tr) : Prop := ∀ a w, St C.N L D a → SH C.w0 C.M H w → ET C.P C.F C.b k ops t a w
def OpV (C : Cx) (L : Slots) (H : Items) (o : Oper) (v : Value) : Prop := ∀ D a w, St C.N L D a → SH C.w0 C.M H w → (execOp a.eval o).run C.P w = .ok (.value v) w
def nth : List Oper → Nat → Option Oper
  | [], _ => none
  | o :: _, 0 => some o
  | _ :: r, i + 1 => nth r i
def opAt (ops : Array Oper) (i : Nat) : Option Oper := nth ops.toList i
theorem nth_eq : ∀ (l : List Oper) (i : Nat), nth l i = l[i]?
  | [], i => by simp [nth]
  | o :: r, 0 => rfl
  | o :: r, i + 1 => by simp [nth, nth_eq r i]
theorem opAt_eq {ops : Array Oper} {i : Nat} {o : Oper} (h : opAt ops i = some o) : ops[i]? = some o := by
  rw [opAt, nth_eq] at h; simpa using h
section code
variable {C : Cx} {L : Slots} {D : List Deferred} {H : Items} {k : List Item}
theorem GE_skip (h : GE C L D H k) : GE C L D H (.code .skip :: k) := fun a w s m => E_skip (h a w s m)
theorem GE_label {l : Nat} (h : GE C L D H k) : GE C L D H (.code (.label l) :: k) := fun a w s m => E_label (h a w s m)
theorem GE_inBlock {i : Nat} (h : GE C L D H k) : GE C L D H (.inBlock i :: k) := fun a w s m => E_inBlock (h a w s m)
theorem GE_inScope {c : Code} (h : GE C L D H k) : GE C L D H (.inScope c :: k) := fun a w s m => E_inScope (h a w s m)
theorem GE_seq {x y : Code} (h : GE C L D H (.code x :: .code y :: k)) : GE C L D H (.code (.seq x y) :: k) := fun a w s m => E_seq (h a w s m)
theorem GE_block {i : Nat} {c : Code} (h : GE C L D H (.code c :: .inBlock i :: k)) : GE C L D H (.code (.block i c) :: k) := fun a w s m => E_block (h a w s m)
theorem GE_scope {c : Code} (h : GE C L D H (.code c :: .inScope c :: k)) : GE C L D H (.code (.scope c) :: k) := fun a w s m => E_scope (h a w s m)
theorem GE_inLoop {c : Code} (h : GE C L D H (.code c :: .inLoop c :: k)) : GE C L D H (.inLoop c :: k) := fun a w s m => E_inLoop (h a w s m)
theorem GE_exit {i : Nat} {k' : List Item} (hk : exitTo i k = some k') (h : GE C L D H k') : GE C L D H (.code (.exit i) :: k) := fun a w s m => E_exit hk (h a w s m)
theorem GE_cond_t {c : Operand} {x y : Code} (hc : ev L c = some (.bool true)) (h : GE C L D H (.code x :: k)) : GE C L D H (.code (.cond c x y) :: k) :=
  fun a w s m => E_cond (s.eval hc) (h a w s m)
theorem GE_cond_f {c : Operand} {x y : Code} (hc : ev L c = some (.bool false)) (h : GE C L D H (.code y :: k)) : GE C L D H (.code (.cond c x y) :: k) :=
  fun a w s m => E_cond (s.eval hc) (h a w s m)
theorem GE_cond {c : Operand} {x y : Code} {p : Prop} [Decidable p] (hc : ev L c = some (.bool (decide p))) (h1 : p → GE C L D H (.code x :: k)) (h2 : ¬ p → GE C L D H (.code y :: k)) : GE C L D H (.code (.cond c x y) :: k) := by
  intro a w s m
  refine E_cond (s.eval hc) ?_
  by_cases hp : p
  · simp only [hp, decide_true, if_true]; exact h1 hp a w s m
  · simp only [hp, decide_false, Bool.false_eq_true, if_false]; exact h2 hp a w s m
theorem GE_condB {c : Operand} {x y : Code} {b : Bool} (hc : ev L c = some (.bool b)) (h1 : b = true → GE C L D H (.code x :: k)) (h2 : b = false → GE C L D H (.code y :: k)) : GE C L D H (.code (.cond c x y) :: k) := by
  intro a w s m
  refine E_cond (s.eval hc) ?_
  cases b
  · exact h2 rfl a w s m
  · exact h1 rfl a w s m
theorem GE_condNot {c : Operand} {x y : Code} {p : Prop} [Decidable p] (hc : ev L c = some (.bool (decide (¬ p)))) (h1 : ¬ p → GE C L D H (.code x :: k)) (h2 : p → GE C L D H (.code y :: k)) : GE C L D H (.code (.cond c x y) :: k) :=
  GE_cond hc h1 (fun h => h2 (Decidable.not_not.1 h))
theorem GE_condNotB {c : Operand} {x y : Code} {b : Bool} (hc : ev L c = some (.bool (!b))) (h1 : b = false → GE C L D H (.code x :: k)) (h2 : b = true → GE C L D H (.code y :: k)) : GE C L D H (.code (.cond c x y) :: k) :=
  GE_condB hc (fun h => h1 (by simpa using h)) (fun h => h2 (by simpa using h))
theorem GE_weak {L' : Slots} {H' : Items} (hs : Sub L L') (hh : ∀ w, SH C.w0 C.M H w → SH C.w0 C.M H' w) (h : GE C L' D H' k) : GE C L D H k := fun a w s m => h a w (s.weak hs) (hh w m)
theorem GE_slots {L' : Slots} (hs : Sub L L') (h : GE C L' D H k) : GE C L D H k := fun a w s m => h a w (s.weak hs) m
theorem GE_plain {id : Nat} {ops : Array Oper} (t : Tr) (hc : chain ops.size 0 t = true) (h : GT C ops k L D H t) : GE C L D H (.code (.region id ops false) :: k) :=
  fun a w s m => E_plain C.hb t hc (h a w s m)
theorem GE_drawn {id : Nat} {ops : Array Oper} (t : Tr) (louds : List Nat) (hc : (okR ops louds && okT ops louds false [] t && noSel ops) = true) (h : GT C ops k L D H t) : GE C L D H (.code (.region id ops true) :: k) :=
  fun a _ s m => E_drawn C.hb C.hm t hc (h a _ s m.drew)
theorem GE_loop {ι : Type} (m : ι → Nat) (L : ι → Slots) (H : ι → Items) (p : ι → Prop) {c : Code}
    (h : ∀ x, p x → (∀ y, p y → m y < m x → GE C (L y) D (H y) (.inLoop c :: k)) → GE C (L x) D (H x) (.code c :: .inLoop c :: k)) (x : ι) (hx : p x) :
    GE C (L x) D (H x) (.code (.loop c) :: k) := by
  have key : ∀ n x, m x = n → p x → GE C (L x) D (H x) (.code c :: .inLoop c :: k) := by
    intro n
    induction n using Nat.strongRecOn with
    | _ n ih =>
      intro x hn hx
      exact h x hx fun y hy hlt => GE_inLoop (ih (m y) (hn ▸ hlt) y rfl hy)
  exact fun a w s m' => E_loop (key _ x rfl hx a w s m')
end code
def HS (_ : Cx) (H H' : Items) : Prop := ∃ R, List.Perm H (H' ++ R)
theorem HS.nil {C : Cx} {H : Items} : HS C H [] := ⟨H, .refl _⟩
theorem HS.cons {C : Cx} {H H1 H' : Items} {b : Nat} {o o' : Obj} [h : HTake b H o H1] (e : o = o') (h' : HS C H1 H') : HS C H ((b, o') :: H') := by
  obtain ⟨R, hR⟩ := h'
  subst e
  exact ⟨R, h.perm.trans (hR.cons _)⟩
theorem HS.all {C : Cx} {H : Items} : HS C H H := ⟨[], by simp⟩
theorem HS.sh {C : Cx} {H H' : Items} (h : HS C H H') : ∀ w, SH C.w0 C.M H w → SH C.w0 C.M H' w := by
  obtain ⟨R, hR⟩ := h
  intro _ hw
  have := hw.perm hR
  exact this.drop (fun p hp => List.mem_append_left _ hp) (by have := this.nd; rw [List.map_append] at this; exact (List.nodup_append.1 this).1)
theorem GE_to {C : Cx} {L L' : Slots} {D : List Deferred} {H H' : Items} {k : List Item} (h : GE C L' D H' k) (hs : Sub L L') (hh : HS C H H') : GE C L D H k := GE_weak hs hh.sh h
/-! ### a region's operations -/
section region
variable {C : Cx} {L : Slots} {D : List Deferred} {H : Items} {k : List Item} {ops : Array Oper} {i : Nat} {o : Oper} {n : Tr} {pend : List Nat}
theorem GT_nil (h : GE C L D H k) : GT C ops k L D H .nil := h
theorem GT_br {l r : Tr} (h1 : GT C ops k L D H l) (h2 : GT C ops k L D H r) : GT C ops k L D H (.br l r) := fun a w s m => ⟨h1 a w s m, h2 a w s m⟩
theorem wanted_none (hg : o.guard = none) (y : Nat → Option Bool) : Region.wanted o y = true := by simp [Region.wanted, hg]
theorem GT_st {d : Nat} {v : Value} (ho : opAt ops i = some o) (hg : o.guard = none) (hd : o.dst = some d) (hN : Nat.blt d C.N = true) (hv : OpV C L H o v)
    (h : GT C ops k ((d, v) :: L) D H n) : GT C ops k L D H (.st i n) := fun a w s m =>
  ⟨o, opAt_eq ho, fun _ => ⟨v, hv D a w s m, by rw [hd]; exact h _ _ (s.put hN v) m⟩, fun hf => by rw [wanted_none hg] at hf; cases hf⟩
def boolOf : Value → Option Bool
  | .bool b => some b
  | _ => none
theorem yielded_of {a : Act} {N j d : Nat} {oj : Oper} {v : Value} (s : St N L D a) (hj : opAt ops j = some oj) (hd : oj.dst = some d) (hv : look L d = some v) :
    yielded ops a.tmps j = boolOf v := by
  have := s.slot d v hv
  simp only [yielded, opAt_eq hj, Option.bind_some, hd, this]
  cases v <;> rfl
theorem GT_st_g {d j dj : Nat} {v : Value} {g : Bool} {oj : Oper} (ho : opAt ops i = some o) (hg : o.guard = some (j, g)) (hj : opAt ops j = some oj) (hdj : oj.dst = some dj) (hl : look L dj = some (.bool g))
    (hd : o.dst = some d) (hN : Nat.blt d C.N = true) (hv : OpV C L H o v) (h : GT C ops k ((d, v) :: L) D H n) : GT C ops k L D H (.st i n) := fun a w s m =>
  ⟨o, opAt_eq ho, fun _ => ⟨v, hv D a w s m, by rw [hd]; exact h _ _ (s.put hN v) m⟩, fun hf => by simp [Region.wanted, hg, yielded_of s hj hdj hl, boolOf] at hf⟩
theorem GT_skip {d j dj : Nat} {u : Value} {g : Bool} {oj : Oper} (ho : opAt ops i = some o) (hg : o.guard = some (j, g)) (hj : opAt ops j = some oj) (hdj : oj.dst = some dj) (hl : look L dj = some u)
    (hu : boolOf u ≠ some g) (hd : o.dst = some d) (hN : Nat.blt d C.N = true) (h : GT C ops k ((d, undef) :: L) D H n) : GT C ops k L D H (.st i n) := fun a w s m =>
  ⟨o, opAt_eq ho, fun hw => by
    simp only [Region.wanted, hg, yielded_of s hj hdj hl] at hw
    exact absurd (by simpa using hw) hu, fun _ => by rw [hd]; exact h _ _ (s.put hN _) m⟩
theorem GT_skip_ld {d j dj : Nat} {u : Value} {g : Bool} {oj : Oper} (ho : opAt ops i = some o) (hg : o.guard = some (j, g)) (hj : opAt ops j = some oj) (hdj : oj.dst = some dj) (hl : look L dj = some u)
    (hu : boolOf u ≠ some g) (hd : o.dst = some d) (hN : Nat.blt d C.N = true) (hq : Oper.isDefer o = false)
    (hp : ∀ a w, St C.N ((d, undef) :: L) D a → SH C.w0 C.M H w → ∀ j ∈ pend, Rc C.P ops j a w) (h : GT C ops k ((d, undef) :: L) D H n) : GT C ops k L D H (.ld i pend n) := fun a w s m =>
  ⟨o, opAt_eq ho, hq, fun hw => by
    simp only [Region.wanted, hg, yielded_of s hj hdj hl] at hw
    exact absurd (by simpa using hw) hu, fun _ => by rw [hd]; exact ⟨hp _ _ (s.put hN _) m, h _ _ (s.put hN _) m⟩⟩
theorem GT_split {d : Nat} {p : Prop} [Decidable p] (hl : look L d = some (.bool (decide p))) (h1 : p → GT C ops k ((d, .bool true) :: L) D H n) (h2 : ¬ p → GT C ops k ((d, .bool false) :: L) D H n) : GT C ops k L D H n := by
  intro a w s m
  have key : ∀ b, decide p = b → St C.N ((d, .bool b) :: L) D a := fun b e => ⟨s.size, s.defers, fun t v hv => by
    simp only [look] at hv
    cases hb : Nat.beq d t with
    | true =>
      rw [hb, cond_true] at hv
      obtain rfl : d = t := Nat.eq_of_beq_eq_true hb
      rw [← e] at hv
      exact (s.slot d _ hl).trans hv
    | false => rw [hb, cond_false] at hv; exact s.slot t v hv⟩
  by_cases hp : p
  · exact h1 hp a w (key _ (by simp [hp])) m
  · exact h2 hp a w (key _ (by simp [hp])) m
theorem GT_splitB {d : Nat} {b : Bool} (hl : look L d = some (.bool b)) (h1 : b = true → GT C ops k ((d, .bool true) :: L) D H n) (h2 : b = false → GT C ops k ((d, .bool false) :: L) D H n) : GT C ops k L D H n := by
  intro a w s m
  have key : St C.N ((d, .bool b) :: L) D a := ⟨s.size, s.defers, fun t v hv => by
    simp only [look] at hv
    cases hb : Nat.beq d t with
    | true =>
      rw [hb, cond_true] at hv
      obtain rfl : d = t := Nat.eq_of_beq_eq_true hb
      exact (s.slot d _ hl).trans hv
    | false => rw [hb, cond_false] at hv; exact s.slot t v hv⟩
  cases b
  · exact h2 rfl a w key m
  · exact h1 rfl a w key m
theorem GT_splitNot {d : Nat} {p : Prop} [Decidable p] (hl : look L d = some (.bool (decide (¬ p)))) (h1 : ¬ p → GT C ops k ((d, .bool true) :: L) D H n) (h2 : p → GT C ops k ((d, .bool false) :: L) D H n) : GT C ops k L D H n :=
  GT_split hl h1 (fun h => h2 (Decidable.not_not.1 h))
theorem GT_splitNotB {d : Nat} {b : Bool} (hl : look L d = some (.bool (!b))) (h1 : b = false → GT C ops k ((d, .bool true) :: L) D H n) (h2 : b = true → GT C ops k ((d, .bool false) :: L) D H n) : GT C ops k L D H n :=
  GT_splitB hl (fun h => h1 (by simpa using h)) (fun h => h2 (by simpa using h))
/-! what has looked already looks the same -/
def GR (C : Cx) (ops : Array Oper) (L : Slots) (D : List Deferred) (H : Items) (pend : List Nat) : Prop := ∀ a w, St C.N L D a → SH C.w0 C.M H w → ∀ j ∈ pend, Rc C.P ops j a w
theorem GR_nil : GR C ops L D H [] := fun _ _ _ _ j hj => by cases hj
theorem St.same {a : Act} {N d : Nat} {v : Value} (s : St N L D a) (hl : look L d = some v) : a.put (some d) v = a :=
  put_same_of fun t ht _ => by cases ht; exact s.slot d v hl
theorem GR_cons {j d : Nat} {v : Value} (ho : opAt ops j = some o) (hg : o.guard = none) (hd : o.dst = some d) (hl : look L d = some v) (hv : OpV C L H o v) (h : GR C ops L D H pend) : GR C ops L D H (j :: pend) := by
  intro a w s m x hx
  rcases List.mem_cons.1 hx with rfl | hx
  · intro o' ho'
    rw [opAt_eq ho] at ho'; cases ho'
    refine ⟨fun _ => ⟨v, hv D a w s m, by rw [hd]; exact s.same hl⟩, fun hf => ?_⟩
    rw [wanted_none hg] at hf; cases hf
  · exact h a w s m x hx
theorem GR_cons_g {j d q dj : Nat} {v : Value} {g : Bool} {oj : Oper} (ho : opAt ops j = some o) (hg : o.guard = some (q, g)) (hj : opAt ops q = some oj) (hdj : oj.dst = some dj) (hlj : look L dj = some (.bool g)) (hd : o.dst = some d) (hl : look L d = some v) (hv : OpV C L H o v) (h : GR C ops L D H pend) : GR C ops L D H (j :: pend) := by
  intro a w s m x hx
  rcases List.mem_cons.1 hx with rfl | hx
  · intro o' ho'
    rw [opAt_eq ho] at ho'; cases ho'
    refine ⟨fun _ => ⟨v, hv D a w s m, by rw [hd]; exact s.same hl⟩, fun hf => ?_⟩
    simp [Region.wanted, hg, yielded_of s hj hdj hlj, boolOf] at hf
  · exact h a w s m x hx
theorem GR_skip {j d q dj : Nat} {u : Value} {g : Bool} {oj : Oper} (ho : opAt ops j = some o) (hg : o.guard = some (q, g)) (hj : opAt ops q = some oj) (hdj : oj.dst = some dj) (hlj : look L dj = some u)
    (hu : boolOf u ≠ some g) (hd : o.dst = some d) (hl : look L d = some undef) (h : GR C ops L D H pend) : GR C ops L D H (j :: pend) := by
  intro a w s m x hx
  rcases List.mem_cons.1 hx with rfl | hx
  · intro o' ho'
    rw [opAt_eq ho] at ho'; cases ho'
    refine ⟨fun hw => ?_, fun _ => by rw [hd]; exact s.same hl⟩
    simp only [Region.wanted, hg, yielded_of s hj hdj hlj] at hw
    exact absurd (by simpa using hw) hu
  · exact h a w s m x hx
theorem GT_ld (ho : opAt ops i = some o) (hg : o.guard = none) (hq : Oper.isDefer o = false)
    (h : ∀ a w, St C.N L D a → SH C.w0 C.M H w → NextOk C.P ((execOp a.eval o).run C.P w) fun v w' => ∃ L' H', St C.N L' D (a.put o.dst v) ∧ SH C.w0 C.M H' w' ∧ GR C ops L' D H' pend ∧ GT C ops k L' D H' n) :
    GT C ops k L D H (.ld i pend n) := fun a w s m =>
  ⟨o, opAt_eq ho, hq, fun _ => (h a w s m).mono fun v w' ⟨L', H', s', m', hr, ht⟩ => ⟨hr _ _ s' m', ht _ _ s' m'⟩, fun hf => by rw [wanted_none hg] at hf; cases hf⟩
theorem GT_ld_g {j dj : Nat} {g : Bool} {oj : Oper} (ho : opAt ops i = some o) (hg : o.guard = some (j, g)) (hj : opAt ops j = some oj) (hdj : oj.dst = some dj) (hl : look L dj = some (.bool g)) (hq : Oper.isDefer o = false)
    (h : ∀ a w, St C.N L D a → SH C.w0 C.M H w → NextOk C.P ((execOp a.eval o).run C.P w) fun v w' => ∃ L' H', St C.N L' D (a.put o.dst v) ∧ SH C.w0 C.M H' w' ∧ GR C ops L' D H' pend ∧ GT C ops k L' D H' n) :
    GT C ops k L D H (.ld i pend n) := fun a w s m =>
  ⟨o, opAt_eq ho, hq, fun _ => (h a w s m).mono fun v w' ⟨L', H', s', m', hr, ht⟩ => ⟨hr _ _ s' m', ht _ _ s' m'⟩, fun hf => by simp [Region.wanted, hg, yielded_of s hj hdj hl, boolOf] at hf⟩
end region
/-! ### the end of a call -/
def RV (C : Cx) (L : Slots) (H : Items) : ResultVar → Value → Prop
  | .tmp t, v => look L t = some v
  | .cell t ty, v => ∃ ad, look L t = some (.pointer (some ad)) ∧ ∀ w, SH C.w0 C.M H w → (loadVar ty ad).run C.P w = .ok v w
theorem RV.run {C : Cx} {L : Slots} {D : List Deferred} {H : Items} {r : ResultVar} {v : Value} (h : RV C L H r v) {a : Act} {w : World} (s : St C.N L D a) (m : SH C.w0 C.M H w) :
    (match r with | .tmp t => (pure (a.tmps.getD t undef) : Sem Value) | .cell t ty => do loadVar ty (← asAddr (a.tmps.getD t undef))).run C.P w = .ok v w := by
  cases r with
  | tmp t => simp [s.slot t v h]
  | cell t ty =>
    obtain ⟨ad, hl, hr⟩ := h
    simp [s.slot t _ hl, asAddr, hr w m]
def RVs (C : Cx) (L : Slots) (H : Items) (rs : Array ResultVar) (v : Value) : Prop :=
  match rs.toList with
  | [] => v = .tuple #[]
  | [r] => RV C L H r v
  | [r, s] => ∃ x y, RV C L H r x ∧ RV C L H s y ∧ v = .tuple #[x, y]
  | [r, s, t] => ∃ x y z, RV C L H r x ∧ RV C L H s y ∧ RV C L H t z ∧ v = .tuple #[x, y, z]
  | [r, s, t, u] => ∃ x y z q, RV C L H r x ∧ RV C L H s y ∧ RV C L H t z ∧ RV C L H u q ∧ v = .tuple #[x, y, z, q]
  | _ => False
theorem RVs.run {C : Cx} {L : Slots} {D : List Deferred} {H : Items} {fn : Func} {v : Value} (h : RVs C L H fn.results v) {a : Act} {w : World} (s : St C.N L D a) (m : SH C.w0 C.M H w) : (results fn a.tmps).run C.P w = .ok v w := by
  unfold results
  generalize fn.results = rs at h
  obtain ⟨l⟩ := rs
  rcases l with _ | ⟨r1, _ | ⟨r2, _ | ⟨r3, _ | ⟨r4, _ | ⟨r5, l⟩⟩⟩⟩⟩
  · simp only [RVs] at h; subst h; simp
  · simp only [RVs] at h
    have := RV.run h s m
    simp
    cases r1 <;> simp_all
  · obtain ⟨x, y, h1, h2, rfl⟩ := h
    have e1 := RV.run h1 s m
    have e2 := RV.run h2 s m
    simp
    cases r1 <;> cases r2 <;> simp_all
  · obtain ⟨x, y, z, h1, h2, h3, rfl⟩ := h
    have e1 := RV.run h1 s m
    have e2 := RV.run h2 s m
    have e3 := RV.run h3 s m
    simp
    cases r1 <;> cases r2 <;> cases r3 <;> simp_all
  · obtain ⟨x, y, z, q, h1, h2, h3, h4, rfl⟩ := h
    have e1 := RV.run h1 s m
    have e2 := RV.run h2 s m
    have e3 := RV.run h3 s m
    have e4 := RV.run h4 s m
    simp
    cases r1 <;> cases r2 <;> cases r3 <;> cases r4 <;> simp_all
  · simp [RVs] at h
abbrev cx (P : Program) (hm : P.follows .mixedOrders = true) (f N : Nat) (w0 : World) (M : Nat → Prop) (R : Value → World → Prop) : Cx :=
  { P := P, F := FinOf P f R, b := base f, hb := rfl, hm := hm, N := N, w0 := w0, M := M }
section ends
variable {P : Program} {hm : P.follows .mixedOrders = true} {f N : Nat} {w0 : World} {M : Nat → Prop} {R : Value → World → Prop} {L : Slots} {H : Items} {k : List Item} {fn : Func} {v : Value}
theorem GE_ret (hf : P.funcs[f]? = some fn) (hv : RVs (cx P hm f N w0 M R) L H fn.results v) (hR : ∀ w, SH w0 M H w → R v w) : GE (cx P hm f N w0 M R) L [] H (.code .ret :: k) := by
  intro a w s m
  refine E_ret (b := base f) rfl rfl hf ?_
  rw [s.defers]
  exact ⟨v, hv.run s m, hR w m⟩
theorem GE_end (hf : P.funcs[f]? = some fn) (hv : RVs (cx P hm f N w0 M R) L H fn.results v) (hR : ∀ w, SH w0 M H w → R v w) : GE (cx P hm f N w0 M R) L [] H [] := by
  intro a w s m
  refine E_nil (b := base f) rfl rfl hf ?_
  rw [s.defers]
  exact ⟨v, hv.run s m, hR w m⟩
def slotsOf : Nat → List Value → Slots
  | _, [] => []
  | i, v :: r => (i, v) :: slotsOf (i + 1) r
theorem slotsOf_look : ∀ (vs : List Value) (i t : Nat) (v : Value), look (slotsOf i vs) t = some v → i ≤ t ∧ vs[t - i]? = some v
  | [], i, t, v, h => by simp [slotsOf, look] at h
  | u :: r, i, t, v, h => by
    simp only [slotsOf, look] at h
    cases hb : Nat.beq i t with
    | true =>
      rw [hb, cond_true] at h
      obtain rfl : i = t := Nat.eq_of_beq_eq_true hb
      cases h
      simp
    | false =>
      rw [hb, cond_false] at h
      obtain ⟨h1, h2⟩ := slotsOf_look r (i + 1) t v h
      refine ⟨by omega, ?_⟩
      have e : t - i = (t - (i + 1)) + 1 := by omega
      rw [e, List.getElem?_cons_succ]; exact h2
theorem Ret_of {c : Code} {vs : List Value} (hm : P.follows .mixedOrders = true) (M : Nat → Prop) (hf : P.funcs[f]? = some fn) (hb : fn.body = some c) (hN : fn.ntmps = N) (hle0 : Nat.ble vs.length N = true)
    (h : GE (cx P hm f N w0 M R) (slotsOf 0 vs) [] [] [.code c]) : Ret P f vs.toArray w0 R := by
  have hle : vs.length ≤ N := Nat.le_of_ble_eq_true hle0
  refine Ret_of_E hf hb (h _ w0 ⟨?_, rfl, fun t v hv => ?_⟩ (SH.refl w0 M))
  · simp [hN]; omega
  · obtain ⟨_, h2⟩ := slotsOf_look vs 0 t v hv
    simp only [Nat.sub_zero] at h2
    have hlt : t < vs.length := (List.getElem?_eq_some_iff.1 h2).1
    rw [Array.getElem?_append_left (by simpa using hlt)]
    simpa using h2
end ends
end Go.Sx
/-
  One law for each operation, over the states of Sx3.
-/
namespace Go.Sx
open Go.RowKit
/-! ### what the program's tables say -/
def szOf (P : Program) (t : TypeId) : Option Nat := (P.info? t).map (·.size)
def byOf (P : Program) (t : TypeId) : Option Nat := (P.info? t).map (·.bytes)
def zcOf (P : Program) (t : TypeId) : Option (List Value) := ((P.info? t).bind (·.zero)).map (·.cells.toList)
def aggOf (P : Program) (t : TypeId) : Option Bool := (P.underlying t).map fun | .struct _ => true | .array _ _ => true | _ => false
def foOf (P : Program) (s f : Nat) : Option Nat :=
  match P.underlying s with
  | some (.struct fs) => match fs[f]? with
    | some fl => match szOf P fl.type with
      | some (_ + 1) => some fl.offset
      | _ => none
    | none => none
  | _ => none
def plOf (P : Program) (t : TypeId) : Option (List (Nat × Nat)) :=
  match P.underlying t with
  | some (.struct fs) => fs.toList.mapM fun f => (szOf P f.type).map fun n => (f.offset, n)
  | some (.array len e) => (szOf P e).map fun n => (List.range len).map fun i => (i * n, n)
  | _ => none
abbrev blk (l : List Value) (t : TypeId) : Obj := .cells l.toArray t (0, 0)
abbrev ptr (b o : Nat) : Value := .pointer (some ⟨b, o, none⟩)
abbrev I (n : Int) : Value := .int .i64 n
theorem add_lit (b q m : Nat) : (⟨b, q, none⟩ : Addr).add m = ⟨b, q + m, none⟩ := by
  unfold Addr.add; split
  · rename_i h; subst h; rfl
  · rfl
theorem add_add' (a : Addr) (i j : Nat) : (a.add i).add j = a.add (i + j) := by
  unfold Addr.add
  by_cases hi : i = 0 <;> by_cases hj : j = 0 <;> simp [hi, hj, Nat.add_assoc]
theorem add_zero' (a : Addr) : a.add 0 = a := by simp [Addr.add]
/-! ### memory as it is known -/
def CellAt (C : Cx) (H : Items) (a : Addr) (v : Value) : Prop := ∀ w, SH C.w0 C.M H w → w.cell? a = some v
theorem CellAt.item {C : Cx} {H : Items} {b o : Nat} {l : List Value} {t : TypeId} {fr : Nat × Nat} {v : Value} [h : HFind b H (.cells l.toArray t fr)] (hv : l[o]? = some v) : CellAt C H ⟨b, o, none⟩ v := by
  intro w m
  have := (m.item _ h.mem).2
  simp [World.cell?, this, hv]
theorem CellAt.old {C : Cx} {H : Items} {a : Addr} {v : Value} (h : C.w0.cell? a = some v) (hM : ¬ C.M a.block) : CellAt C H a v := fun _ m => m.cellOld h hM
def CellsAt (C : Cx) (H : Items) (a : Addr) (vs : List Value) : Prop := ∀ i v, vs[i]? = some v → CellAt C H (a.add i) v
theorem CellsAt.item {C : Cx} {H : Items} {b o : Nat} {l vs : List Value} {t : TypeId} {fr : Nat × Nat} [h : HFind b H (.cells l.toArray t fr)] (hv : (l.drop o).take vs.length = vs) : CellsAt C H ⟨b, o, none⟩ vs := by
  intro i v hi
  rw [add_lit]
  rw [← hv, List.getElem?_take] at hi
  split at hi
  · rw [List.getElem?_drop] at hi
    exact CellAt.item hi
  · cases hi
theorem run_loadCellsFrom {P : Program} {w : World} {a : Addr} : ∀ (n i : Nat) (acc : Array Value) (vs : List Value), vs.length = n → (∀ j v, vs[j]? = some v → w.cell? (a.add (i + j)) = some v) →
    (loadCellsFrom a i n acc).run P w = .ok (acc ++ vs.toArray) w
  | 0, i, acc, vs, hn, h => by
    have := List.eq_nil_of_length_eq_zero hn
    subst this
    simp [loadCellsFrom]
  | n + 1, i, acc, [], hn, h => by simp at hn
  | n + 1, i, acc, v :: vs, hn, h => by
    have h0 := h 0 v rfl
    simp only [Nat.add_zero] at h0
    have := run_loadCellsFrom (P := P) (w := w) (a := a) n (i + 1) (acc.push v) vs (by simpa using hn) (fun j u hj => by
      have := h (j + 1) u (by simpa using hj)
      rwa [show i + (j + 1) = i + 1 + j by omega] at this)
    simp [loadCellsFrom, h0, this]
theorem run_loadVar_agg {P : Program} {w : World} {a : Addr} {t n : Nat} {vs : List Value} (ha : aggOf P t = some true) (hs : szOf P t = some n) (hn : vs.length = n) (h : ∀ j v, vs[j]? = some v → w.cell? (a.add j) = some v) :
    (loadVar t a).run P w = .ok (.agg vs.toArray) w := by
  obtain ⟨i, hi, rfl⟩ := Option.map_eq_some_iff.1 hs
  obtain ⟨u, hu, hb⟩ := Option.map_eq_some_iff.1 ha
  have hag : (isAgg t).run P w = .ok true w := by
    simp [isAgg, underlying, hu]
    cases u <;> simp at hb <;> rfl
  have hl := run_loadCellsFrom (P := P) (w := w) (a := a) i.size 0 #[] vs hn (by simpa using h)
  simp [loadVar, hag, sizeOf, typeInfo, hi, loadCells, hl]
theorem run_loadVar_one {P : Program} {w : World} {a : Addr} {t : Nat} {v : Value} (ha : aggOf P t = some false) (h : w.cell? a = some v) : (loadVar t a).run P w = .ok v w := by
  obtain ⟨u, hu, hb⟩ := Option.map_eq_some_iff.1 ha
  have hag : (isAgg t).run P w = .ok false w := by
    simp [isAgg, underlying, hu]
    cases u <;> simp at hb <;> rfl
  simp [loadVar, hag, h]
section values
variable {C : Cx} {L : Slots} {H : Items} {o : Oper}
theorem V_move {x : Operand} {v : Value} (ho : o.op = .move x) (hx : ev L x = some v) : OpV C L H o v := fun D a w s m => by
  simp [execOp, ho, s.eval hx]
theorem V_assign {x : Operand} {v : Value} (ho : o.op = .assign x) (hx : ev L x = some v) : OpV C L H o v := fun D a w s m => by
  simp [execOp, ho, s.eval hx]
theorem V_pick_t {c x y : Operand} {v : Value} (ho : o.op = .pick c x y) (hc : ev L c = some (.bool true)) (hx : ev L x = some v) : OpV C L H o v := fun D a w s m => by
  simp [execOp, ho, s.eval hc, asBool, s.eval hx]
theorem V_pick_f {c x y : Operand} {v : Value} (ho : o.op = .pick c x y) (hc : ev L c = some (.bool false)) (hx : ev L y = some v) : OpV C L H o v := fun D a w s m => by
  simp [execOp, ho, s.eval hc, asBool, s.eval hx]
theorem V_nilCheck {x : Operand} {a : Addr} (ho : o.op = .nilCheck x) (hx : ev L x = some (.pointer (some a))) : OpV C L H o (.pointer (some a)) := fun D a w s m => by
  simp [execOp, ho, s.eval hx]
theorem V_nilCheck_func {x : Operand} {f : FuncId} {fs cs : Array Value} (ho : o.op = .nilCheck x) (hx : ev L x = some (.func (.func f) fs cs)) : OpV C L H o (.func (.func f) fs cs) := fun D a w s m => by
  simp [execOp, ho, s.eval hx]
theorem V_nilCheck_yield {x : Operand} {f : Nat} {fs cs : Array Value} (ho : o.op = .nilCheck x) (hx : ev L x = some (.func (.yield f) fs cs)) : OpV C L H o (.func (.yield f) fs cs) := fun D a w s m => by
  simp [execOp, ho, s.eval hx]
theorem run_field {P : Program} {w : World} {s f off : Nat} {a : Addr} (hf : foOf P s f = some off) : (Instr.fieldAt s (.pointer (some a)) f).run P w = .ok (.pointer (some (a.add off))) w := by
  unfold foOf at hf
  split at hf
  · rename_i fs hu
    split at hf
    · rename_i fl hfl
      split at hf
      · rename_i n hn
        obtain ⟨i, hi, hsz⟩ := Option.map_eq_some_iff.1 hn
        cases hf
        simp [Instr.fieldAt, underlying, hu, hfl, Instr.sureAddr, fieldPlace, sizeOf, typeInfo, hi, hsz]
      · cases hf
    · cases hf
  · cases hf
theorem V_field {x : Operand} {s f off b q : Nat} (ho : o.op = .fieldAddr s x f) (hx : ev L x = some (ptr b q)) (hf : foOf C.P s f = some off) : OpV C L H o (ptr b (q + off)) := fun D a w s m => by
  simp [execOp, ho, s.eval hx, run_field hf, add_lit]
theorem V_fieldA {x : Operand} {s f off i : Nat} {a : Addr} (ho : o.op = .fieldAddr s x f) (hx : ev L x = some (.pointer (some (a.add i)))) (hf : foOf C.P s f = some off) : OpV C L H o (.pointer (some (a.add (i + off)))) := fun D a w s m => by
  simp [execOp, ho, s.eval hx, run_field hf, add_add']
theorem V_load {x : Operand} {t : TypeId} {ad : Addr} {v : Value} (ho : o.op = .load t x) (hx : ev L x = some (.pointer (some ad))) (ha : aggOf C.P t = some false) (hc : CellAt C H ad v) : OpV C L H o v := fun D a w s m => by
  simp [execOp, ho, s.eval hx, Instr.loadAt, Instr.sureAddr, run_loadVar_one ha (hc w m)]
theorem V_loadN {x : Operand} {t : TypeId} {ad : Addr} {n : Nat} {vs : List Value} (ho : o.op = .load t x) (hx : ev L x = some (.pointer (some ad))) (ha : aggOf C.P t = some true) (hs : szOf C.P t = some n) (hn : vs.length = n)
    (hc : CellsAt C H ad vs) : OpV C L H o (.agg vs.toArray) := fun D a w s m => by
  simp [execOp, ho, s.eval hx, Instr.loadAt, Instr.sureAddr, run_loadVar_agg ha hs hn (fun j v hj => hc j v hj w m)]
theorem V_extract {x : Operand} {i : Nat} {vs : Array Value} {v : Value} (ho : o.op = .extract x i) (hx : ev L x = some (.tuple vs)) (hv : vs[i]? = some v) : OpV C L H o v := fun D a w s m => by
  simp [execOp, ho, s.eval hx, Instr.extract, hv]
theorem V_makeFunc {fn : Fn} {fs cs : Array Operand} {us vs : List Value} (ho : o.op = .makeFunc fn fs cs) (hf : evs L fs.toList = some us) (hc : evs L cs.toList = some vs) : OpV C L H o (.func fn us.toArray vs.toArray) := fun D a w s m => by
  have e1 := s.evals hf
  have e2 := s.evals hc
  obtain ⟨fs⟩ := fs
  obtain ⟨cs⟩ := cs
  simp at e1 e2
  simp [execOp, ho, Instr.makeFunc, e1, e2]
/-! numbers -/
theorem V_add {x y : Operand} {t t' : TypeId} {k : IntKind} {a b z : Int} (ho : o.op = .binOp .add t x y t') (hx : ev L x = some (.int k a)) (hy : ev L y = some (.int k b)) (hw : k.wrap (a + b) = z) : OpV C L H o (.int k z) := fun D a w s m => by
  simp [execOp, ho, s.eval hx, s.eval hy, eqGuard, binOp, Op.intArith, hw]
theorem V_sub {x y : Operand} {t t' : TypeId} {k : IntKind} {a b z : Int} (ho : o.op = .binOp .sub t x y t') (hx : ev L x = some (.int k a)) (hy : ev L y = some (.int k b)) (hw : k.wrap (a - b) = z) : OpV C L H o (.int k z) := fun D a w s m => by
  simp [execOp, ho, s.eval hx, s.eval hy, eqGuard, binOp, Op.intArith, hw]
theorem V_mul {x y : Operand} {t t' : TypeId} {k : IntKind} {a b z : Int} (ho : o.op = .binOp .mul t x y t') (hx : ev L x = some (.int k a)) (hy : ev L y = some (.int k b)) (hw : k.wrap (a * b) = z) : OpV C L H o (.int k z) := fun D a w s m => by
  simp [execOp, ho, s.eval hx, s.eval hy, eqGuard, binOp, Op.intArith, hw]
theorem V_quo {x y : Operand} {t t' : TypeId} {k : IntKind} {a b z : Int} (ho : o.op = .binOp .quo t x y t') (hx : ev L x = some (.int k a)) (hy : ev L y = some (.int k b)) (h0 : b ≠ 0) (hw : k.wrap (a.tdiv b) = z) : OpV C L H o (.int k z) := fun D a w s m => by
  simp [execOp, ho, s.eval hx, s.eval hy, eqGuard, binOp, Op.intDiv, h0, hw]
theorem V_rem {x y : Operand} {t t' : TypeId} {k : IntKind} {a b : Int} (ho : o.op = .binOp .rem t x y t') (hx : ev L x = some (.int k a)) (hy : ev L y = some (.int k b)) (h0 : b ≠ 0) : OpV C L H o (.int k (a.tmod b)) := fun D a w s m => by
  simp [execOp, ho, s.eval hx, s.eval hy, eqGuard, binOp, Op.intDiv, h0]
theorem V_lss {x y : Operand} {t t' : TypeId} {k : IntKind} {a b : Int} (ho : o.op = .binOp .lss t x y t') (hx : ev L x = some (.int k a)) (hy : ev L y = some (.int k b)) : OpV C L H o (.bool (decide (a < b))) := fun D a w s m => by
  simp [execOp, ho, s.eval hx, s.eval hy, eqGuard, binOp, Op.intCmp]
theorem V_leq {x y : Operand} {t t' : TypeId} {k : IntKind} {a b : Int} (ho : o.op = .binOp .leq t x y t') (hx : ev L x = some (.int k a)) (hy : ev L y = some (.int k b)) : OpV C L H o (.bool (decide (a ≤ b))) := fun D a w s m => by
  simp [execOp, ho, s.eval hx, s.eval hy, eqGuard, binOp, Op.intCmp]
theorem V_gtr {x y : Operand} {t t' : TypeId} {k : IntKind} {a b : Int} (ho : o.op = .binOp .gtr t x y t') (hx : ev L x = some (.int k a)) (hy : ev L y = some (.int k b)) : OpV C L H o (.bool (decide (b < a))) := fun D a w s m => by
  simp [execOp, ho, s.eval hx, s.eval hy, eqGuard, binOp, Op.intCmp]
theorem V_geq {x y : Operand} {t t' : TypeId} {k : IntKind} {a b : Int} (ho : o.op = .binOp .geq t x y t') (hx : ev L x = some (.int k a)) (hy : ev L y = some (.int k b)) : OpV C L H o (.bool (decide (b ≤ a))) := fun D a w s m => by
  simp [execOp, ho, s.eval hx, s.eval hy, eqGuard, binOp, Op.intCmp]
theorem V_eql {x y : Operand} {t t' : TypeId} {k : IntKind} {a b : Int} (ho : o.op = .binOp .eql t x y t') (hx : ev L x = some (.int k a)) (hy : ev L y = some (.int k b)) : OpV C L H o (.bool (decide (a = b))) := fun D a w s m => by
  simp [execOp, ho, s.eval hx, s.eval hy, eqGuard, binOp, Op.intCmp]; rfl
theorem V_neq {x y : Operand} {t t' : TypeId} {k : IntKind} {a b : Int} (ho : o.op = .binOp .neq t x y t') (hx : ev L x = some (.int k a)) (hy : ev L y = some (.int k b)) : OpV C L H o (.bool (decide (¬ a = b))) := fun D a w s m => by
  simp [execOp, ho, s.eval hx, s.eval hy, eqGuard, binOp, Op.intCmp, bne]; rfl
theorem V_neg {x : Operand} {t : TypeId} {k : IntKind} {a z : Int} (ho : o.op = .unOp .neg t x) (hx : ev L x = some (.int k a)) (hw : k.wrap (0 - a) = z) : OpV C L H o (.int k z) := fun D a w s m => by
  simp [execOp, ho, s.eval hx, Op.unary, Op.intArith]
  simpa using hw
theorem V_not {x : Operand} {t : TypeId} {p : Prop} [Decidable p] (ho : o.op = .unOp .not t x) (hx : ev L x = some (.bool (decide p))) : OpV C L H o (.bool (decide (¬ p))) := fun D a w s m => by
  simp [execOp, ho, s.eval hx, Op.unary]
theorem V_notB {x : Operand} {t : TypeId} {b : Bool} (ho : o.op = .unOp .not t x) (hx : ev L x = some (.bool b)) : OpV C L H o (.bool (!b)) := fun D a w s m => by
  simp [execOp, ho, s.eval hx, Op.unary]
theorem V_convII {x : Operand} {t t' : TypeId} {k k' : IntKind} {a z : Int} (ho : o.op = .convert t t' x) (hx : ev L x = some (.int k a)) (ht : (C.P.underlying t).isSome = true) (ht' : C.P.underlying t' = some (.int k')) (hw : k'.wrap a = z) : OpV C L H o (.int k' z) := fun D a w s m => by
  obtain ⟨u, hu⟩ := Option.isSome_iff_exists.1 ht
  simp [execOp, ho, s.eval hx, convert, underlying, hu, ht', Conv.intToInt, hw]
theorem wrap_i64 {x : Int} (h : -9223372036854775808 ≤ x ∧ x ≤ 9223372036854775807) : IntKind.i64.wrap x = x := by
  simp [IntKind.wrap, IntKind.bits, IntKind.signed]
  omega
theorem wrap_u64 {x : Int} (h : 0 ≤ x ∧ x ≤ 18446744073709551615) : IntKind.u64.wrap x = x := by
  simp [IntKind.wrap, IntKind.bits, IntKind.signed]
  omega
/-! builtins that look -/
theorem V_len {x : Operand} {t e : TypeId} {A : Option Addr} {n c : Nat} (ho : o.op = .call { callee := .builtin .len, args := #[x], argTypes := #[t] }) (ht : C.P.underlying t = some (.slice e)) (hx : ev L x = some (.slice A n c)) : OpV C L H o (I n) := fun D a w s m => by
  simp [execOp, ho, resolve, invoke, builtin, s.eval hx, Builtin.len_, underlying, ht, goInt]
theorem V_len_str {x : Operand} {t : TypeId} {b : ByteArray} (ho : o.op = .call { callee := .builtin .len, args := #[x], argTypes := #[t] }) (ht : C.P.underlying t = some .string) (hx : ev L x = some (.string b)) : OpV C L H o (I b.size) := fun D a w s m => by
  simp [execOp, ho, resolve, invoke, builtin, s.eval hx, Builtin.len_, underlying, ht, goInt]
theorem V_min {x y : Operand} {ts : Array TypeId} {k : IntKind} {a b : Int} (ho : o.op = .call { callee := .builtin .min, args := #[x, y], argTypes := ts }) (hx : ev L x = some (.int k a)) (hy : ev L y = some (.int k b)) : OpV C L H o (.int k (min a b)) := fun D _ w s m => by
  have : (if b < a then b else a) = min a b := by split <;> omega
  simp [execOp, ho, resolve, invoke, builtin, s.eval hx, s.eval hy, Builtin.min_, Builtin.min2, this]
theorem V_max {x y : Operand} {ts : Array TypeId} {k : IntKind} {a b : Int} (ho : o.op = .call { callee := .builtin .max, args := #[x, y], argTypes := ts }) (hx : ev L x = some (.int k a)) (hy : ev L y = some (.int k b)) : OpV C L H o (.int k (max a b)) := fun D _ w s m => by
  have : (if a < b then b else a) = max a b := by split <;> omega
  simp [execOp, ho, resolve, invoke, builtin, s.eval hx, s.eval hy, Builtin.max_, Builtin.max2, this]
/-! a slice's elements -/
def ad (A : Option Addr) : Addr := A.getD ⟨0, 0, none⟩
theorem V_index {x y : Operand} {t e sz n c k : Nat} {A : Option Addr} {kd : IntKind} {z : Int} (ho : o.op = .indexAddr t x y) (hx : ev L x = some (.slice A n c)) (hy : ev L y = some (.int kd z)) (ht : C.P.underlying t = some (.slice e)) (hs : szOf C.P e = some sz)
    (hz : z = (k : Int)) (hk : k < n) (hA : A.isSome = true) : OpV C L H o (.pointer (some ((ad A).add (k * sz)))) := fun D a w s m => by
  obtain ⟨i, hi, rfl⟩ := Option.map_eq_some_iff.1 hs
  obtain ⟨b, rfl⟩ := Option.isSome_iff_exists.1 hA
  subst hz
  simp [execOp, ho, s.eval hx, s.eval hy, Instr.indexAt, asIntOf, underlying, ht, sizeOf, typeInfo, hi, hk, ad]
theorem V_sliceTo {x y : Operand} {t e n c : Nat} {A : Option Addr} {kd : IntKind} {h : Nat} (ho : o.op = .slice t x none (some y) none) (hx : ev L x = some (.slice A n c)) (hy : ev L y = some (.int kd (h : Int))) (ht : C.P.underlying t = some (.slice e))
    (hs : (szOf C.P e).isSome = true) (hh : h ≤ c) : OpV C L H o (.slice A h c) := fun D a w s m => by
  obtain ⟨z, hz⟩ := Option.isSome_iff_exists.1 hs
  obtain ⟨i, hi, _⟩ := Option.map_eq_some_iff.1 hz
  have e1 : ¬ c = 0 → Option.map (fun x => x.add 0) A = A := fun _ => by cases A <;> simp [add_zero']
  simp [execOp, ho, s.eval hx, s.eval hy, Instr.sliceAt, underlying, ht, Instr.slice, Instr.sliceBounds, Instr.sliceBound, asIntOf, hh, sizeOf, typeInfo, hi]
  exact e1
end values
/-! ### what acts -/
section acts
variable {C : Cx} {L : Slots} {D : List Deferred} {H : Items} {k : List Item} {ops : Array Oper} {i d : Nat} {o : Oper} {n : Tr} {pend : List Nat}
theorem GT_alloc {e : TypeId} {z : List Value} (ho : opAt ops i = some o) (hop : o.op = .alloc e) (hg : o.guard = none) (hd : o.dst = some d) (hN : Nat.blt d C.N = true) (hz : zcOf C.P e = some z)
    (hp : ∀ b, GR C ops ((d, ptr b 0) :: L) D ((b, blk z e) :: H) pend) (h : ∀ b, GT C ops k ((d, ptr b 0) :: L) D ((b, blk z e) :: H) n) : GT C ops k L D H (.ld i pend n) := by
  refine GT_ld ho hg (by simp [Oper.isDefer, hop]) fun a w s m => ?_
  obtain ⟨v, hv, rfl⟩ := Option.map_eq_some_iff.1 hz
  obtain ⟨inf, hi, hz0⟩ := Option.bind_eq_some_iff.1 hv
  have : (execOp a.eval o).run C.P w = .ok (.value (ptr w.heap.size 0)) { w with heap := w.heap.push (.cells v.cells e) } := by
    simp [execOp, hop, Instr.alloc, zeroValue, typeInfo, hi, hz0, newVar, newRow]
  rw [this]
  exact ⟨_, _, by rw [hd]; exact s.put hN _, by simpa using m.alloc (.cells v.cells e), hp _, h _⟩
theorem GT_box {e : TypeId} {x : Operand} {v : Value} {z : List Value} (ho : opAt ops i = some o) (hop : o.op = .box e x) (hg : o.guard = none) (hd : o.dst = some d) (hN : Nat.blt d C.N = true) (hx : ev L x = some v) (hz : v.cells.toList = z)
    (hp : ∀ b, GR C ops ((d, ptr b 0) :: L) D ((b, blk z e) :: H) pend) (h : ∀ b, GT C ops k ((d, ptr b 0) :: L) D ((b, blk z e) :: H) n) : GT C ops k L D H (.ld i pend n) := by
  refine GT_ld ho hg (by simp [Oper.isDefer, hop]) fun a w s m => ?_
  have : (execOp a.eval o).run C.P w = .ok (.value (ptr w.heap.size 0)) { w with heap := w.heap.push (.cells v.cells e) } := by
    simp [execOp, hop, Instr.box, newVar, newRow, s.eval hx]
  rw [this]
  subst hz
  exact ⟨_, _, by rw [hd]; exact s.put hN _, by simpa using m.alloc (.cells v.cells e), hp _, h _⟩
theorem run_storeCells {P : Program} {w0 : World} {M : Nat → Prop} {H : Items} {b : Nat} {t : TypeId} : ∀ (vs : List Value) (q j : Nat) (l : List Value) (w : World), SH w0 M ((b, blk l t) :: H) w → (∀ v ∈ vs, v.oneCell' = true) → q + j + vs.length ≤ l.length →
    ∃ w', (storeCells ⟨b, q, none⟩ vs j).run P w = .ok () w' ∧ SH w0 M ((b, blk (l.take (q + j) ++ vs ++ l.drop (q + j + vs.length)) t) :: H) w'
  | [], q, j, l, w, m, _, _ => ⟨w, rfl, by simpa using m⟩
  | v :: vs, q, j, l, w, m, h1, hl => by
    have hit := (m.item (b, blk l t) (by simp)).2
    simp only [List.length_cons] at hl
    have hlt : q + j < l.length := by omega
    have hc : w.cell? ⟨b, q + j, none⟩ = some l[q + j] := by simp [World.cell?, hit, hlt]
    have hfr : w.frozen? ⟨b, q + j, none⟩ = false := by simp [World.frozen?, hit]
    have hset : w.setCell ⟨b, q + j, none⟩ v = { w with heap := w.heap.setIfInBounds b (blk (l.set (q + j) v) t) } := by
      simp only [World.setCell]
      congr 1
      apply Array.ext_getElem?
      intro x
      rw [Array.getElem?_modify, Array.getElem?_setIfInBounds]
      by_cases hx : b = x
      · subst hx
        have hb := m.lt (p := (b, blk l t)) (by simp)
        simp only at hb hit
        simp [hb]
        have := (Array.getElem?_eq_some_iff.1 hit).2
        rw [this]
        simp
      · simp [hx]
    have m' := m.set (blk (l.set (q + j) v) t)
    rw [← hset] at m'
    obtain ⟨w', hr, m2⟩ := run_storeCells (P := P) vs q (j + 1) (l.set (q + j) v) _ m' (fun u hu => h1 u (List.mem_cons_of_mem _ hu)) (by simp; omega)
    refine ⟨w', ?_, ?_⟩
    · rw [storeCells]
      simp only [Sem.run_bind, add_lit, run_store _ _ _ _ _ (h1 v (by simp)), hc, hfr, Bool.false_eq_true, if_false, Result.andThen_ok, hr]
    · have e : (l.set (q + j) v).take (q + (j + 1)) ++ vs ++ (l.set (q + j) v).drop (q + (j + 1) + vs.length) = l.take (q + j) ++ v :: vs ++ l.drop (q + j + (v :: vs).length) := by
        rw [List.drop_set_of_lt (by omega)]
        have : (l.set (q + j) v).take (q + (j + 1)) = l.take (q + j) ++ [v] := by
          rw [show q + (j + 1) = q + j + 1 by omega, List.take_succ_eq_append_getElem (by simpa using hlt)]
          simp [List.take_set_of_le]
        rw [this]
        simp only [List.length_cons, List.append_assoc, List.nil_append, List.cons_append]
        rw [show q + (j + 1) + vs.length = q + j + (vs.length + 1) by omega]
      rw [← e]; exact m2
def setsAt : List Value → Nat → List Value → List Value
  | l, _, [] => l
  | l, q, v :: vs => setsAt (l.set q v) (q + 1) vs
theorem setsAt_eq : ∀ (vs l : List Value) (q : Nat), q + vs.length ≤ l.length → setsAt l q vs = l.take q ++ vs ++ l.drop (q + vs.length)
  | [], l, q, h => by simp [setsAt]
  | v :: vs, l, q, h => by
    simp only [List.length_cons] at h
    have hlt : q < l.length := by omega
    rw [setsAt, setsAt_eq vs (l.set q v) (q + 1) (by simp; omega), List.drop_set_of_lt (by omega)]
    have : (l.set q v).take (q + 1) = l.take q ++ [v] := by
      rw [List.take_succ_eq_append_getElem (by simpa using hlt)]
      simp [List.take_set_of_le]
    rw [this]
    simp only [List.length_cons, List.append_assoc, List.nil_append, List.cons_append]
    rw [show q + 1 + vs.length = q + (vs.length + 1) by omega]
theorem GT_store {t b q nn : Nat} {x y : Operand} {v : Value} {vs l l' : List Value} {tb : TypeId} {H' : Items} [ht : HTake b H (.cells l.toArray tb (0, 0)) H'] (ho : opAt ops i = some o) (hop : o.op = .store t x y) (hg : o.guard = none) (hd : o.dst = none)
    (hx : ev L x = some (ptr b q)) (hy : ev L y = some v) (hv : v.cells.toList = vs) (hs : szOf C.P t = some nn) (hn : vs.length = nn) (h1 : vs.all (·.oneCell') = true) (hle : q + vs.length ≤ l.length) (hl' : setsAt l q vs = l')
    (hp : GR C ops L D ((b, blk l' tb) :: H') pend) (h : GT C ops k L D ((b, blk l' tb) :: H') n) : GT C ops k L D H (.ld i pend n) := by
  refine GT_ld ho hg (by simp [Oper.isDefer, hop]) fun a w s m => ?_
  obtain ⟨inf, hi, rfl⟩ := Option.map_eq_some_iff.1 hs
  subst hv
  have m' := m.perm ht.perm
  obtain ⟨w', hr, m2⟩ := run_storeCells (P := C.P) v.cells.toList q 0 l w m' (fun u hu => by simpa using List.all_eq_true.1 h1 u hu) (by simpa using hle)
  have e : (execOp a.eval o).run C.P w = .ok .skip w' := by
    simp only [execOp, hop, s.eval hx, s.eval hy, Instr.storeAt, Instr.sureAddr, storeVar, sizeOf, typeInfo]
    have hsz : v.cells.size = inf.size := by rw [← hn]; simp
    simp [hi, hsz, hr]
  rw [e]
  refine ⟨L, _, by rw [hd]; exact s, ?_, hp, h⟩
  rw [← hl', setsAt_eq _ _ _ hle]
  simpa using m2
def runs (P : Program) (f : FuncId) : Bool := match P.funcs[f]? with
  | some fn => fn.body.isSome && !(fn.name == "runtime.NumGoroutine")
  | none => false
theorem runs_of {P : Program} {f : FuncId} (h : runs P f = true) : ∃ fn c, P.funcs[f]? = some fn ∧ fn.body = some c ∧ ¬ fn.name = "runtime.NumGoroutine" := by
  unfold runs at h
  split at h
  · rename_i fn hfn
    simp only [Bool.and_eq_true, Option.isSome_iff_exists, Bool.not_eq_true'] at h
    obtain ⟨⟨c, hc⟩, hn⟩ := h
    exact ⟨fn, c, hfn, hc, by simpa using hn⟩
  · cases h
theorem GT_call {ι : Type} {Hn : ι → Items} {V : ι → Value} {p : ι → Prop} {f : Operand} {args : Array Operand} {ts : Array TypeId} {fi : FuncId} {fs cs : Array Value} {vs args' : List Value}
    (ho : opAt ops i = some o) (hop : o.op = .call { callee := .value f, args := args, argTypes := ts }) (hg : o.guard = none) (hd : o.dst = some d) (hN : Nat.blt d C.N = true)
    (hf : ev L f = some (.func (.func fi) fs cs)) (ha : evs L args.toList = some vs) (he : fs.toList ++ vs ++ cs.toList = args') (hb : runs C.P fi = true)
    (hc : ∀ w, SH C.w0 C.M H w → Ret C.P fi args'.toArray w fun v w' => ∃ x, p x ∧ v = V x ∧ SH w none' (Hn x) w')
    (hp : ∀ x, p x → GR C ops ((d, V x) :: L) D (Hn x ++ H) pend) (h : ∀ x, p x → GT C ops k ((d, V x) :: L) D (Hn x ++ H) n) : GT C ops k L D H (.ld i pend n) := by
  refine GT_ld ho hg (by simp [Oper.isDefer, hop]) fun a w s m => ?_
  obtain ⟨fn, c, hfn, hbody, hname⟩ := runs_of hb
  have e0 : args.map a.eval = vs.toArray := by
    have := s.evals ha
    rw [← this]; obtain ⟨l⟩ := args; simp
  have e1 : fs ++ vs.toArray ++ cs = args'.toArray := by rw [← he]; simp
  have e : (execOp a.eval o).run C.P w = .ok (.enter fi args'.toArray) w := by
    simp [execOp, hop, resolve, s.eval hf, Deferred.ofValue, invoke, callFunc, hfn, hbody, hname, e0, e1]
  rw [e]
  exact (hc w m).mono fun v w' ⟨x, hx, hv, m'⟩ => by
    subst hv
    exact ⟨_, _, by rw [hd]; exact s.put hN _, m.trans m', hp x hx, h x hx⟩
end acts
end Go.Sx
