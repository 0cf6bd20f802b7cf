/- Which causes are left, what is certain and possible, which disc comes next; in plain Lean. -/
import Derived.Test.YtfaggcmcfhljpaaLiS
namespace Go.Proofs.Ytfaggcmcfhljpaa
open Go.Sx

def idxS (d : List Dsc) (s : Int) : Nat := (serS d).findIdx (· == s)
def known (d : List Dsc) (s : Int) : Bool := (serS d).contains s
def agree1 (d : List Dsc) (x : Sus) (y : Hrg) : Bool := x.has.getD (idxS d y.ser) default == y.yes
def agree (d : List Dsc) (h : List Hrg) (x : Sus) : Bool := h.all (agree1 d x)
def leftS (p : List Plt) (d : List Dsc) (side : Int) (h : List Hrg) : List Sus := (causS p d side).filter (agree d h)
def hearE (p : List Plt) (d : List Dsc) (side : Int) (h : List Hrg) : Int := if beginE p d side = 0 then (if 200 < h.length then 6 else if h.all (fun y => known d y.ser) then 0 else 5) else beginE p d side
def mny (l : List Sus) (i : Nat) : Nat := l.countP fun x => x.has.getD i default
def pick (d : List Dsc) (f : Nat → Bool) : List Int := ((List.range d.length).filter f).map fun i => (d.getD i default).ser
def hasS (d : List Dsc) (x : Sus) : List Int := pick d fun i => x.has.getD i default
def certB (l : List Sus) (i : Nat) : Bool := decide (0 < mny l i) && decide (mny l i = l.length)
def possB (l : List Sus) (i : Nat) : Bool := decide (0 < mny l i)
def certS (d : List Dsc) (l : List Sus) : List Int := pick d (certB l)
def possS (d : List Dsc) (l : List Sus) : List Int := pick d (possB l)
def nextTo (l : List Sus) : Nat → Nat × Nat
  | 0 => (0, l.length)
  | i + 1 => if max (mny l i) (l.length - mny l i) < (nextTo l i).2 then (i, max (mny l i) (l.length - mny l i)) else nextTo l i
def same (l : List Sus) : Bool := l.all fun x => x.has == (l.getD 0 default).has
def nextR (d : List Dsc) (l : List Sus) : Int × Int × Int := if same l then (0, 0, 15) else ((d.getD (nextTo l d.length).1 default).ser, (nextTo l d.length).2, 0)

theorem hearE_zero {p : List Plt} {d : List Dsc} {side : Int} {h : List Hrg} : hearE p d side h = 0 ↔ Room p d side ∧ h.length ≤ 200 ∧ ∀ y ∈ h, known d y.ser = true := by
  unfold hearE
  rw [← beginE_zero]
  split
  · rename_i h0
    split
    · constructor
      · intro h; cases h
      · intro h; omega
    · split
      · rename_i h1 h2; exact ⟨fun _ => ⟨h0, by omega, by simpa using h2⟩, fun _ => rfl⟩
      · rename_i h1 h2; exact ⟨fun h => (by cases h), fun h => absurd (by simpa using h.2.2) h2⟩
  · rename_i h0; exact ⟨fun h => absurd h h0, fun h => absurd h.1 h0⟩
theorem known_iff {d : List Dsc} {s : Int} : known d s = true ↔ ∃ i, i < d.length ∧ (d.getD i default).ser = s := by
  unfold known serS
  rw [List.contains_iff_mem, List.mem_map]
  constructor
  · rintro ⟨x, hx, rfl⟩
    obtain ⟨i, hi, rfl⟩ := List.getElem_of_mem hx
    exact ⟨i, hi, by simp [List.getD, hi]⟩
  · rintro ⟨i, hi, rfl⟩
    exact ⟨d.getD i default, by simp [List.getD, hi], rfl⟩
theorem idxS_of {p : List Plt} {d : List Dsc} (h : DsOk p d) {i : Nat} (hi : i < d.length) : idxS d (d.getD i default).ser = i := by
  unfold idxS
  generalize hs : (d.getD i default).ser = s
  have hl := serS_len d
  have hex : ∃ x ∈ serS d, (x == s) = true := ⟨s, by rw [← hs, ← serS_get hi]; simp [List.getD, hl, hi], by simp⟩
  have hlt := List.findIdx_lt_length_of_exists hex
  have hp : ((serS d)[(serS d).findIdx (· == s)]'hlt == s) = true := List.findIdx_getElem (w := hlt)
  have e := serS_get (d := d) (i := (serS d).findIdx (· == s)) (by omega)
  generalize (serS d).findIdx (· == s) = q at *
  have e2 : (serS d).getD q default = (serS d)[q] := by simp [List.getD, hlt]
  rw [e2] at e
  simp only [beq_iff_eq] at hp
  exact ser_inj h (by omega) hi (by rw [← e, hp, hs])

theorem mem_pick {d : List Dsc} {f : Nat → Bool} {s : Int} : s ∈ pick d f ↔ ∃ i, i < d.length ∧ f i = true ∧ (d.getD i default).ser = s := by
  unfold pick
  simp only [List.mem_map, List.mem_filter, List.mem_range, and_assoc]
theorem pick_congr {d : List Dsc} {f g : Nat → Bool} (h : ∀ i, i < d.length → f i = g i) : pick d f = pick d g := by
  unfold pick
  congr 1
  apply List.filter_congr
  intro i hi
  exact h i (List.mem_range.1 hi)
theorem mem_pick_ser {p : List Plt} {d : List Dsc} (h : DsOk p d) {f : Nat → Bool} {i : Nat} (hi : i < d.length) : (d.getD i default).ser ∈ pick d f ↔ f i = true := by
  rw [mem_pick]
  constructor
  · rintro ⟨j, hj, hf, e⟩
    rw [← ser_inj h hj hi e]; exact hf
  · exact fun hf => ⟨i, hi, hf, rfl⟩

/-! ### the causes -/
theorem plate1_mem {p : List Plt} {d : List Dsc} {side : Int} {i : Nat} {x : Sus} : x ∈ plate1 p d side i ↔
    ((p.getD i default).kind = 3 ∧ ∃ k, k < d.length ∧ (under p d side i 0).getD k default = true ∧ x = ⟨i, (d.getD k default).ser, fromK (under p d side i 0) k⟩) ∨
    ((p.getD i default).kind ≠ 3 ∧ ∃ k, k < p.length ∧ i < k ∧ (p.getD k default).par = i ∧ x = ⟨i, k, under p d side i k⟩) := by
  unfold plate1
  split
  · rename_i h3
    simp only [List.mem_flatMap, List.mem_range, stamp1]
    constructor
    · rintro ⟨k, hk, hx⟩
      split at hx
      · rename_i hu; exact .inl ⟨h3, k, hk, hu, List.mem_singleton.1 hx⟩
      · cases hx
    · rintro (⟨_, k, hk, hu, rfl⟩ | ⟨h4, _⟩)
      · exact ⟨k, hk, by rw [if_pos hu]; exact List.mem_singleton.2 rfl⟩
      · exact absurd h3 h4
  · rename_i h3
    simp only [List.mem_flatMap, List.mem_range, child1]
    constructor
    · rintro ⟨k, hk, hx⟩
      split at hx
      · rename_i hu; exact .inr ⟨h3, k, hk, hu.1, hu.2, List.mem_singleton.1 hx⟩
      · cases hx
    · rintro (⟨h4, _⟩ | ⟨_, k, hk, h1, h2, rfl⟩)
      · exact absurd h4 h3
      · exact ⟨k, hk, by rw [if_pos ⟨h1, h2⟩]; exact List.mem_singleton.2 rfl⟩
theorem causS_mem {p : List Plt} {d : List Dsc} {side : Int} {x : Sus} : x ∈ causS p d side ↔ (∃ i, i < p.length ∧ x ∈ plate1 p d side i) ∨ ∃ k, k < d.length ∧ x = alone1 d k := by
  unfold causS
  simp only [List.mem_append, List.mem_flatMap, List.mem_map, List.mem_range]
  constructor
  · rintro (h | ⟨k, hk, rfl⟩)
    · exact .inl h
    · exact .inr ⟨k, hk, rfl⟩
  · rintro (h | ⟨k, hk, rfl⟩)
    · exact .inl h
    · exact .inr ⟨k, hk, rfl⟩
theorem causS_len {p : List Plt} {d : List Dsc} {side : Int} {x : Sus} (h : x ∈ causS p d side) : x.has.length = d.length := by
  rcases causS_mem.1 h with ⟨i, hi, hx⟩ | ⟨k, hk, rfl⟩
  · rcases plate1_mem.1 hx with ⟨_, k, _, _, rfl⟩ | ⟨_, k, _, _, _, rfl⟩
    · dsimp only; rw [fromK_len, under_len]
    · exact under_len ..
  · exact alone_len ..
/-- a cause says which discs have it -/
theorem cau_has {p : List Plt} {d : List Dsc} {side : Int} (hd : DsOk p d) {x y : Sus} (hx : x ∈ causS p d side) (hy : y ∈ causS p d side) (e : x.cau = y.cau) : x = y := by
  have e1 : x.plate = y.plate := congrArg Cau.plate e
  have e2 : x.frm = y.frm := congrArg Cau.frm e
  rcases causS_mem.1 hx with ⟨i, hi, hx1⟩ | ⟨k, hk, rfl⟩ <;> rcases causS_mem.1 hy with ⟨j, hj, hy1⟩ | ⟨k', hk', rfl⟩
  · rcases plate1_mem.1 hx1 with ⟨h3, k, hk, _, rfl⟩ | ⟨h3, k, hk, _, _, rfl⟩ <;> rcases plate1_mem.1 hy1 with ⟨h3', k', hk', _, rfl⟩ | ⟨h3', k', hk', _, _, rfl⟩ <;> dsimp only at e1 e2
    · obtain rfl : i = j := by omega
      obtain rfl := ser_inj hd hk hk' e2
      rfl
    · obtain rfl : i = j := by omega
      exact absurd h3 h3'
    · obtain rfl : i = j := by omega
      exact absurd h3' h3
    · obtain rfl : i = j := by omega
      obtain rfl : k = k' := by omega
      rfl
  · exfalso
    rcases plate1_mem.1 hx1 with ⟨h3, k, hk, _, rfl⟩ | ⟨h3, k, hk, _, _, rfl⟩ <;> (unfold alone1 at e1; dsimp only at e1; omega)
  · exfalso
    rcases plate1_mem.1 hy1 with ⟨h3, k, hk, _, rfl⟩ | ⟨h3, k, hk, _, _, rfl⟩ <;> (unfold alone1 at e1; dsimp only at e1; omega)
  · unfold alone1 at e2
    dsimp only at e2
    rw [ser_inj hd hk hk' e2]

/-! ### what is left -/
theorem leftS_mem {p : List Plt} {d : List Dsc} {side : Int} {h : List Hrg} {x : Sus} : x ∈ leftS p d side h ↔ x ∈ causS p d side ∧ ∀ y ∈ h, agree1 d x y = true := by
  unfold leftS agree
  rw [List.mem_filter, List.all_eq_true]
theorem leftS_snoc {p : List Plt} {d : List Dsc} {side : Int} {h : List Hrg} {y : Hrg} : leftS p d side (h ++ [y]) = (leftS p d side h).filter fun x => agree1 d x y := by
  unfold leftS
  rw [List.filter_filter]
  congr 1
  funext x
  unfold agree
  rw [List.all_append, Bool.and_comm]
  simp
theorem mny_le (l : List Sus) (i : Nat) : mny l i ≤ l.length := List.countP_le_length
theorem mny_pos {l : List Sus} {i : Nat} : 0 < mny l i ↔ ∃ x ∈ l, x.has.getD i default = true := List.countP_pos_iff
theorem mny_all {l : List Sus} {i : Nat} : mny l i = l.length ↔ ∀ x ∈ l, x.has.getD i default = true := List.countP_eq_length
theorem left_yes {p : List Plt} {d : List Dsc} {side : Int} (hd : DsOk p d) {h : List Hrg} {i : Nat} (hi : i < d.length) : (leftS p d side (h ++ [⟨(d.getD i default).ser, true⟩])).length = mny (leftS p d side h) i := by
  rw [leftS_snoc, mny, List.countP_eq_length_filter]
  congr 2
  funext x
  unfold agree1
  rw [idxS_of hd hi]
  simp
theorem left_no {p : List Plt} {d : List Dsc} {side : Int} (hd : DsOk p d) {h : List Hrg} {i : Nat} (hi : i < d.length) : (leftS p d side (h ++ [⟨(d.getD i default).ser, false⟩])).length = (leftS p d side h).length - mny (leftS p d side h) i := by
  rw [leftS_snoc, mny]
  have e : ((leftS p d side h).filter fun x => agree1 d x ⟨(d.getD i default).ser, false⟩).length = (leftS p d side h).countP fun x => ! x.has.getD i default := by
    rw [List.countP_eq_length_filter]
    congr 2
    funext x
    unfold agree1
    rw [idxS_of hd hi]
    simp
  rw [e]
  have := List.length_eq_countP_add_countP (fun x : Sus => x.has.getD i default) (l := leftS p d side h)
  simp only [Bool.not_eq_true] at this
  have e2 : (fun x : Sus => ! x.has.getD i default) = fun x : Sus => decide (x.has.getD i default = false) := by funext x; cases x.has.getD i default <;> rfl
  rw [e2]; omega

/-! ### the next disc -/
theorem nextTo_spec (l : List Sus) : ∀ n, (nextTo l n).2 ≤ l.length ∧ (∀ i, i < n → (nextTo l n).2 ≤ max (mny l i) (l.length - mny l i)) ∧ ((nextTo l n).2 < l.length → (nextTo l n).1 < n ∧ (nextTo l n).2 = max (mny l (nextTo l n).1) (l.length - mny l (nextTo l n).1))
  | 0 => ⟨Nat.le_refl _, fun i hi => absurd hi (Nat.not_lt_zero _), fun h => absurd h (Nat.lt_irrefl _)⟩
  | n + 1 => by
    obtain ⟨h1, h2, h3⟩ := nextTo_spec l n
    have e : nextTo l (n + 1) = if max (mny l n) (l.length - mny l n) < (nextTo l n).2 then (n, max (mny l n) (l.length - mny l n)) else nextTo l n := rfl
    rw [e]
    split
    · rename_i hlt
      refine ⟨by dsimp only; omega, fun i hi => ?_, fun _ => ⟨by dsimp only; omega, rfl⟩⟩
      dsimp only
      rcases Nat.lt_or_ge i n with h | h
      · have := h2 i h; omega
      · obtain rfl : i = n := by omega
        exact Nat.le_refl _
    · rename_i hge
      refine ⟨h1, fun i hi => ?_, fun h => ⟨by have := (h3 h).1; omega, (h3 h).2⟩⟩
      rcases Nat.lt_or_ge i n with h | h
      · exact h2 i h
      · obtain rfl : i = n := by omega
        omega
theorem same_false {l : List Sus} {n : Nat} (hl : ∀ x ∈ l, x.has.length = n) (h : same l = false) : (nextTo l n).2 < l.length := by
  unfold same at h
  rw [List.all_eq_false] at h
  obtain ⟨x, hx, hne⟩ := h
  simp only [beq_iff_eq] at hne
  have hl0 : 0 < l.length := List.length_pos_of_mem hx
  have h0 : l.getD 0 default ∈ l := by simp [List.getD, hl0]
  obtain ⟨i, hi, hd⟩ : ∃ i, i < n ∧ x.has.getD i default ≠ (l.getD 0 default).has.getD i default := by
    refine Classical.byContradiction fun hno => hne ?_
    apply List.ext_getElem (by rw [hl x hx, hl _ h0])
    intro i h1 h2
    refine Classical.byContradiction fun hc => hno ⟨i, by have := hl x hx; omega, ?_⟩
    have e1 : x.has.getD i default = x.has[i] := by simp [List.getD, h1]
    have e2 : (l.getD 0 default).has.getD i default = (l.getD 0 default).has[i] := by rw [List.getD, List.getElem?_eq_getElem h2]; rfl
    rw [e1, e2]; exact hc
  obtain ⟨h1, h2, _⟩ := nextTo_spec l n
  have h3 := h2 i hi
  have hp : 0 < mny l i ∧ mny l i < l.length := by
    have hle := mny_le l i
    constructor
    · rw [mny_pos]
      cases hxb : x.has.getD i default with
      | true => exact ⟨x, hx, hxb⟩
      | false => exact ⟨_, h0, by rw [hxb] at hd; cases hb : (l.getD 0 default).has.getD i default with | true => rfl | false => exact absurd hb.symm hd⟩
    · rcases Nat.lt_or_ge (mny l i) l.length with h | h
      · exact h
      · exfalso
        have := mny_all.1 (show mny l i = l.length by omega)
        exact hd ((this x hx).trans (this _ h0).symm)
  omega
theorem same_eq {l : List Sus} (h : same l = true) {x y : Sus} (hx : x ∈ l) (hy : y ∈ l) : x.has = y.has := by
  unfold same at h
  rw [List.all_eq_true] at h
  have h1 := h x hx
  have h2 := h y hy
  simp only [beq_iff_eq] at h1 h2
  rw [h1, h2]
/-- what is known of the next disc -/
theorem next_good {p : List Plt} {d : List Dsc} {side : Int} {h : List Hrg} (hs : same (leftS p d side h) = false) :
    (nextTo (leftS p d side h) d.length).1 < d.length ∧ (nextTo (leftS p d side h) d.length).2 < (leftS p d side h).length ∧
    (nextTo (leftS p d side h) d.length).2 = max (mny (leftS p d side h) (nextTo (leftS p d side h) d.length).1) ((leftS p d side h).length - mny (leftS p d side h) (nextTo (leftS p d side h) d.length).1) ∧
    ∀ i, i < d.length → (nextTo (leftS p d side h) d.length).2 ≤ max (mny (leftS p d side h) i) ((leftS p d side h).length - mny (leftS p d side h) i) := by
  have h1 := same_false (n := d.length) (fun x hx => causS_len (leftS_mem.1 hx).1) hs
  obtain ⟨_, h2, h3⟩ := nextTo_spec (leftS p d side h) d.length
  exact ⟨(h3 h1).1, h1, (h3 h1).2, h2⟩

/-! ### what is certain, and possible -/
theorem cert_sub {d : List Dsc} {l : List Sus} {x : Sus} (hx : x ∈ l) {s : Int} (h : s ∈ certS d l) : s ∈ hasS d x := by
  obtain ⟨i, hi, hf, rfl⟩ := mem_pick.1 h
  unfold certB at hf
  simp only [Bool.and_eq_true, decide_eq_true_eq] at hf
  exact mem_pick.2 ⟨i, hi, mny_all.1 hf.2 x hx, rfl⟩
theorem poss_sup {d : List Dsc} {l : List Sus} {x : Sus} (hx : x ∈ l) {s : Int} (h : s ∈ hasS d x) : s ∈ possS d l := by
  obtain ⟨i, hi, hf, rfl⟩ := mem_pick.1 h
  exact mem_pick.2 ⟨i, hi, decide_eq_true (mny_pos.2 ⟨x, hx, hf⟩), rfl⟩
/-- where all causes that are left are had by the same discs -/
theorem cert_same {d : List Dsc} {l : List Sus} {x : Sus} (hx : x ∈ l) (h : ∀ y ∈ l, y.has = x.has) : certS d l = hasS d x ∧ possS d l = hasS d x := by
  have hl0 : 0 < l.length := List.length_pos_of_mem hx
  have key : ∀ i, (x.has.getD i default = true → mny l i = l.length) ∧ (x.has.getD i default = false → mny l i = 0) := by
    intro i
    constructor
    · intro hb
      exact mny_all.2 fun y hy => by rw [h y hy]; exact hb
    · intro hb
      rcases Nat.eq_zero_or_pos (mny l i) with h0 | h0
      · exact h0
      · obtain ⟨y, hy, hyb⟩ := mny_pos.1 h0
        rw [h y hy, hb] at hyb; cases hyb
  constructor
  · apply pick_congr
    intro i hi
    unfold certB
    cases hb : x.has.getD i default with
    | true => have := (key i).1 hb; simp [this, hl0]
    | false => have := (key i).2 hb; simp [this]
  · apply pick_congr
    intro i hi
    unfold possB
    cases hb : x.has.getD i default with
    | true => have := (key i).1 hb; simp [this, hl0]
    | false => have := (key i).2 hb; simp [this]
/-- all discs were heard, each as it is for x -/
theorem left_full {p : List Plt} {d : List Dsc} {side : Int} (hd : DsOk p d) {h : List Hrg} {x : Sus} (hx : x ∈ leftS p d side h) (hall : ∀ i, i < d.length → ∃ y ∈ h, y.ser = (d.getD i default).ser) : ∀ y ∈ leftS p d side h, y.has = x.has := by
  intro y hy
  obtain ⟨hy1, hy2⟩ := leftS_mem.1 hy
  obtain ⟨hx1, hx2⟩ := leftS_mem.1 hx
  have l1 := causS_len hy1
  have l2 := causS_len hx1
  apply List.ext_getElem (by rw [l1, l2])
  intro i h1 h2
  obtain ⟨q, hq, e⟩ := hall i (by omega)
  have a1 := hy2 q hq
  have a2 := hx2 q hq
  unfold agree1 at a1 a2
  rw [e, idxS_of hd (by omega)] at a1 a2
  simp only [beq_iff_eq, List.getD, List.getElem?_eq_getElem h1, List.getElem?_eq_getElem h2, Option.getD_some] at a1 a2
  rw [a1, a2]
theorem same_of {l : List Sus} {x : Sus} (h : ∀ y ∈ l, y.has = x.has) : same l = true := by
  unfold same
  rw [List.all_eq_true]
  intro y hy
  have hl0 : 0 < l.length := List.length_pos_of_mem hy
  have h0 : l.getD 0 default ∈ l := by simp [List.getD, hl0]
  rw [h y hy, h _ h0]; simp
end Go.Proofs.Ytfaggcmcfhljpaa
