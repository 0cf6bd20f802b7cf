/- What the laws say of causes, in plain Lean. -/
import Derived.Test.YtfaggcmcfhljpaaLiT
namespace Go.Proofs.Ytfaggcmcfhljpaa
open Go.Sx

theorem tmod_bd {a b : Int} (ha : 0 ≤ a) (hb : 0 < b) : 0 ≤ a.tmod b ∧ a.tmod b < b := ⟨Int.tmod_nonneg b ha, Int.tmod_lt_of_pos a hb⟩
theorem pigeon : ∀ (n : Nat) (f : Nat → Nat), (∀ i, i ≤ n → f i < n) → ∃ i j, i < j ∧ j ≤ n ∧ f i = f j
  | 0, f, h => absurd (h 0 (Nat.le_refl _)) (by omega)
  | n + 1, f, h => by
    by_cases he : ∃ i, i ≤ n ∧ f i = f (n + 1)
    · obtain ⟨i, hi, e⟩ := he
      exact ⟨i, n + 1, by omega, by omega, e⟩
    · have hne : ∀ i, i ≤ n → f i ≠ f (n + 1) := fun i hi e => he ⟨i, hi, e⟩
      obtain ⟨i, j, hij, hj, e⟩ := pigeon n (fun i => if f i = n then f (n + 1) else f i) (by
        intro i hi
        have h1 := h i (by omega)
        have h2 := h (n + 1) (by omega)
        have h3 := hne i hi
        split <;> omega)
      refine ⟨i, j, hij, by omega, ?_⟩
      have h1 := hne i (by omega)
      have h2 := hne j hj
      split at e <;> split at e <;> omega
/-- so many different numbers below n are all of them -/
theorem nodup_full {n : Nat} {l : List Nat} (hd : l.Nodup) (hl : ∀ i ∈ l, i < n) (hn : l.length = n) {i : Nat} (hi : i < n) : i ∈ l := by
  refine Classical.byContradiction fun hni => ?_
  have hd2 : (i :: l).Nodup := List.nodup_cons.2 ⟨hni, hd⟩
  have hlt : ∀ q, q ≤ n → ((i :: l).getD q 0) < n := by
    intro q hq
    have hq2 : q < (i :: l).length := by rw [List.length_cons]; omega
    have e : (i :: l).getD q 0 = (i :: l)[q] := by rw [List.getD, List.getElem?_eq_getElem hq2]; rfl
    rw [e]
    rcases List.mem_cons.1 (List.getElem_mem hq2) with h | h
    · rw [h]; exact hi
    · exact hl _ h
  obtain ⟨a, b, hab, hb, e⟩ := pigeon n (fun q => (i :: l).getD q 0) hlt
  have ha2 : a < (i :: l).length := by rw [List.length_cons]; omega
  have hb2 : b < (i :: l).length := by rw [List.length_cons]; omega
  simp only [List.getD, List.getElem?_eq_getElem ha2, List.getElem?_eq_getElem hb2, Option.getD_some] at e
  exact List.pairwise_iff_getElem.1 hd2 a b ha2 hb2 hab e

section
variable {p : List Plt} {d : List Dsc} {side : Int}
theorem leftS_nil : leftS p d side [] = causS p d side := by
  unfold leftS
  rw [List.filter_eq_self]
  intro x _
  rfl
theorem hearE_nil (hR : Room p d side) : hearE p d side [] = 0 := hearE_zero.2 ⟨hR, by simp, fun y hy => by cases hy⟩
theorem fromK_get {l : List Bool} {k q : Nat} : (fromK l k).getD q default = if q < k then false else l.getD q default := by
  unfold fromK
  simp only [List.getD, List.getElem?_append, List.length_replicate, List.getElem?_replicate, List.getElem?_drop]
  by_cases h : q < k
  · rw [if_pos h]
    by_cases h2 : q < min k l.length
    · rw [if_pos h2, if_pos h2]; rfl
    · rw [if_neg h2, List.getElem?_eq_none (by omega)]; rfl
  · rw [if_neg h]
    by_cases h2 : q < min k l.length
    · omega
    · rw [if_neg h2]
      by_cases h3 : k ≤ l.length
      · rw [show k + (q - min k l.length) = q by omega]
      · rw [List.getElem?_eq_none (by omega), List.getElem?_eq_none (by omega)]
theorem alone_get {n k q : Nat} (hk : k < n) : (alone n k).getD q default = decide (q = k) := by
  unfold alone
  simp only [List.getD, List.getElem?_set, List.length_replicate, List.getElem?_replicate]
  by_cases h : k = q
  · subst h; simp [hk]
  · rw [if_neg h]
    have : ¬ q = k := fun e => h e.symm
    by_cases h2 : q < n
    · rw [if_pos h2]; simp [this]
    · rw [if_neg h2]; simp [this]
/-- a cause of one disc alone -/
theorem alone_has {k : Nat} (hk : k < d.length) : hasS d (alone1 d k) = [(d.getD k default).ser] := by
  unfold hasS pick alone1
  dsimp only
  have e : (List.range d.length).filter (fun i => (alone d.length k).getD i default) = [k] := by
    have e1 : (fun i => (alone d.length k).getD i default) = fun i => decide (i = k) := by funext i; exact alone_get hk
    rw [e1]
    have : ∀ n, (List.range n).filter (fun i => decide (i = k)) = if k < n then [k] else [] := by
      intro n
      induction n with
      | zero => simp
      | succ n ih =>
        rw [List.range_succ, List.filter_append, ih, List.filter_cons, List.filter_nil]
        by_cases h1 : k < n
        · simp [h1, show k < n + 1 by omega, show ¬ n = k by omega]
        · by_cases h2 : n = k
          · subst h2; simp
          · simp [h1, h2, show ¬ k < n + 1 by omega]
    rw [this, if_pos hk]
  rw [e]; rfl
theorem under_get' {plate frm : Int} {k : Nat} (hk : k < d.length) : (under p d side plate frm).getD k default = under1 p plate frm (ofS (d.getD k default) side) := by
  simp [under, stmS, List.getD, hk]
theorem under1_iff {plate frm s : Int} : under1 p plate frm s = true ↔ (climb p plate p.length s p.length).1 = plate ∧ frm ≤ (climb p plate p.length s p.length).2 := by
  unfold under1; simp
/-- a disc that has a cause of a plate descends from it -/
theorem has_climb {x : Sus} (hx : x ∈ causS p d side) (hp : x.plate ≠ -1) {k : Nat} (hk : k < d.length) (h : x.has.getD k default = true) : (climb p x.plate p.length (ofS (d.getD k default) side) p.length).1 = x.plate := by
  rcases causS_mem.1 hx with ⟨i, hi, hx1⟩ | ⟨q, hq, rfl⟩
  · rcases plate1_mem.1 hx1 with ⟨_, q, hq, _, rfl⟩ | ⟨_, q, hq, _, _, rfl⟩ <;> dsimp only at h ⊢
    · rw [fromK_get] at h
      split at h
      · cases h
      · rw [under_get' hk] at h; exact (under1_iff.1 h).1
    · rw [under_get' hk] at h; exact (under1_iff.1 h).1
  · exact absurd rfl hp
theorem caus_plate {x : Sus} (hx : x ∈ causS p d side) : -1 ≤ x.plate ∧ x.plate < p.length ∧ (x.plate = -1 → ∃ k, k < d.length ∧ x = alone1 d k) := by
  rcases causS_mem.1 hx with ⟨i, hi, hx1⟩ | ⟨q, hq, rfl⟩
  · rcases plate1_mem.1 hx1 with ⟨_, q, hq, _, rfl⟩ | ⟨_, q, hq, _, _, rfl⟩ <;> exact ⟨by dsimp only; omega, by dsimp only; omega, fun h => by dsimp only at h; omega⟩
  · refine ⟨by unfold alone1; dsimp only; omega, by unfold alone1; dsimp only; omega, fun _ => ⟨q, hq, rfl⟩⟩
/-- of two causes of a plate the first one is the wider -/
def Wider (x y : Sus) : Prop := x.plate = y.plate → x.plate ≠ -1 → x.frm < y.frm ∧ ∀ q : Nat, y.has.getD q default = true → x.has.getD q default = true
theorem pairwise_flatMap {α β : Type} {R : β → β → Prop} {f : α → List β} : ∀ {l : List α}, (∀ a ∈ l, (f a).Pairwise R) → l.Pairwise (fun a b => ∀ x ∈ f a, ∀ y ∈ f b, R x y) → (l.flatMap f).Pairwise R
  | [], _, _ => .nil
  | a :: l, h1, h2 => by
    rw [List.flatMap_cons, List.pairwise_append]
    obtain ⟨h3, h4⟩ := List.pairwise_cons.1 h2
    refine ⟨h1 a (List.mem_cons_self ..), pairwise_flatMap (fun b hb => h1 b (List.mem_cons_of_mem _ hb)) h4, fun x hx y hy => ?_⟩
    obtain ⟨b, hb, hy⟩ := List.mem_flatMap.1 hy
    exact h3 b hb x hx y hy
theorem range_pairwise (n : Nat) : (List.range n).Pairwise (· < ·) := List.pairwise_lt_range
theorem mem_range_pairwise {n : Nat} {R : Nat → Nat → Prop} (h : ∀ a b, a < b → b < n → R a b) : (List.range n).Pairwise R := by
  rw [List.pairwise_iff_getElem]
  intro i j hi hj hij
  rw [List.getElem_range, List.getElem_range]
  rw [List.length_range] at hj
  exact h i j hij hj
theorem causS_wider (hd : DsOk p d) : (causS p d side).Pairwise Wider := by
  unfold causS
  rw [List.pairwise_append]
  refine ⟨pairwise_flatMap (fun i _ => ?_) (mem_range_pairwise fun i j hij hj x hx y hy e => ?_), ?_, fun x hx y hy e he => ?_⟩
  · unfold plate1
    split
    · rename_i h3
      refine pairwise_flatMap (fun k _ => ?_) (mem_range_pairwise fun a b hab hb x hx y hy e _ => ?_)
      · unfold stamp1; split
        · exact List.pairwise_singleton ..
        · exact .nil
      · unfold stamp1 at hx hy
        split at hx
        · split at hy
          · rw [List.mem_singleton.1 hx, List.mem_singleton.1 hy]
            refine ⟨ser_lt hd hab hb, fun q hq => ?_⟩
            dsimp only at hq ⊢
            rw [fromK_get] at hq ⊢
            split at hq
            · cases hq
            · rw [if_neg (by omega)]; exact hq
          · cases hy
        · cases hx
    · refine pairwise_flatMap (fun k _ => ?_) (mem_range_pairwise fun a b hab hb x hx y hy e _ => ?_)
      · unfold child1; split
        · exact List.pairwise_singleton ..
        · exact .nil
      · unfold child1 at hx hy
        split at hx
        · split at hy
          · rw [List.mem_singleton.1 hx, List.mem_singleton.1 hy]
            refine ⟨by dsimp only; omega, fun q hq => ?_⟩
            dsimp only at hq ⊢
            rcases Nat.lt_or_ge q d.length with hql | hql
            · rw [under_get' hql] at hq ⊢
              obtain ⟨q1, q2⟩ := under1_iff.1 hq
              exact under1_iff.2 ⟨q1, by omega⟩
            · rw [List.getD, List.getElem?_eq_none (by rw [under_len]; exact hql)] at hq; cases hq
          · cases hy
        · cases hx
  · exfalso
    have h1 : x.plate = i := by rcases plate1_mem.1 hx with ⟨_, _, _, _, rfl⟩ | ⟨_, _, _, _, _, rfl⟩ <;> rfl
    have h2 : y.plate = j := by rcases plate1_mem.1 hy with ⟨_, _, _, _, rfl⟩ | ⟨_, _, _, _, _, rfl⟩ <;> rfl
    omega
  · rw [List.pairwise_iff_getElem]
    intro i j hi hj hij e he
    rw [List.getElem_map] at he
    exact absurd rfl he
  · obtain ⟨k, _, rfl⟩ := List.mem_map.1 hy
    exact absurd (e.trans rfl) he
/-- neighbours -/
theorem caus_next (hd : DsOk p d) {i : Nat} (hi : i + 1 < (causS p d side).length) : Wider ((causS p d side).getD i default) ((causS p d side).getD (i + 1) default) := by
  have := (List.pairwise_iff_getElem.1 (causS_wider (side := side) hd)) i (i + 1) (by omega) hi (by omega)
  simpa [List.getD, show i < (causS p d side).length by omega, hi] using this
theorem wider_within {x y : Sus} (h : ∀ q : Nat, y.has.getD q default = true → x.has.getD q default = true) : ((hasS d y).all fun s => (hasS d x).contains s) = true := by
  rw [List.all_eq_true]
  intro s hs
  obtain ⟨i, hi, hf, rfl⟩ := mem_pick.1 hs
  rw [List.contains_iff_mem]
  exact mem_pick.2 ⟨i, hi, h i hf, rfl⟩
theorem contains_has (hd : DsOk p d) {x : Sus} {i : Nat} (hi : i < d.length) : (hasS d x).contains (d.getD i default).ser = x.has.getD i default := by
  rw [Bool.eq_iff_iff, List.contains_iff_mem]
  exact mem_pick_ser hd hi
/-- the discs of a stamper -/
theorem climb_off {plate : Int} (hp : PlOk p) (h3 : (p.getD plate.toNat default).kind = 3) : ∀ (f : Nat) (s c : Int), (s = -1 ∨ (0 ≤ s ∧ s < p.length ∧ (p.getD s.toNat default).kind ≠ 3)) → 0 ≤ plate → (climb p plate f s c).1 ≠ plate
  | 0, s, c, h, h0 => by
    show s ≠ plate
    rintro rfl
    rcases h with rfl | ⟨_, _, h⟩
    · omega
    · exact h h3
  | f + 1, s, c, h, h0 => by
    by_cases hc : s ≠ plate ∧ 0 ≤ s
    · rw [climb_go hc]
      rcases h with rfl | ⟨h1, h2, h4⟩
      · omega
      · have hpl := Room.plate hp (i := s.toNat) (by omega)
        refine climb_off hp h3 f _ _ ?_ h0
        by_cases hk : (p.getD s.toNat default).kind = 0
        · exact .inl (hpl.2.2.2.2.1 hk)
        · have := hpl.2.2.2.2.2 hk
          exact .inr ⟨by omega, by omega, by omega⟩
    · rw [climb_stop hc]
      show s ≠ plate
      rintro rfl
      rcases h with rfl | ⟨_, _, h⟩
      · omega
      · exact h h3
theorem own_iff (hR : Room p d side) {i k : Nat} (h3 : (p.getD i default).kind = 3) (hi : i < p.length) (hk : k < d.length) : (under p d side i 0).getD k default = true ↔ ofS (d.getD k default) side = i := by
  rw [under_get' hk, under1_iff]
  have hs := ofS_in (side := side) hR.dsok hk
  constructor
  · rintro ⟨h1, _⟩
    refine Classical.byContradiction fun hne => ?_
    obtain ⟨n, hn⟩ : ∃ n, p.length = n + 1 := ⟨p.length - 1, by omega⟩
    rw [show climb p (i : Int) p.length (ofS (d.getD k default) side) (p.length : Int) = climb p (i : Int) (n + 1) (ofS (d.getD k default) side) (p.length : Int) by rw [← hn], climb_go ⟨hne, hs.1⟩] at h1
    have hpl := Room.plate hR.plok (i := (ofS (d.getD k default) side).toNat) (by omega)
    have h4 := hpl.2.2.2.2.2 (by omega)
    exact climb_off (plate := i) hR.plok (by rw [Int.toNat_natCast]; exact h3) n _ _ (.inr ⟨by omega, by omega, by omega⟩) (by omega) h1
  · intro e
    rw [e, climb_stop (by omega)]
    exact ⟨rfl, by dsimp only; omega⟩
end
end Go.Proofs.Ytfaggcmcfhljpaa
