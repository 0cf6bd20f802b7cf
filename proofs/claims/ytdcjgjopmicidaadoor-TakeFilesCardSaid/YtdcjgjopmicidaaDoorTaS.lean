/- What takes and programmes come to, in plain Lean: samples, takes, parts, places, sounds, mixes. -/
import Derived.Test.YtdcjgjopmicidaaDoorSx8
namespace Go.Proofs.YtdcjgjopmicidaaDoor
open Go.Sx

/-- an int64 -/
def I64 (x : Int) : Prop := -9223372036854775808 ≤ x ∧ x ≤ 9223372036854775807
theorem I64.of {x : Int} (h : (Lit.int .i64 x).wf = true) : I64 x := by
  simp [Lit.wf, IntKind.min, IntKind.max, IntKind.signed, IntKind.bits] at h
  unfold I64; omega
theorem u8_of {x : Int} (h : (Lit.int .u8 x).wf = true) : 0 ≤ x ∧ x ≤ 255 := by
  simp [Lit.wf, IntKind.min, IntKind.max, IntKind.signed, IntKind.bits] at h
  omega
theorem u16_of {x : Int} (h : (Lit.int .u16 x).wf = true) : 0 ≤ x ∧ x ≤ 65535 := by
  simp [Lit.wf, IntKind.min, IntKind.max, IntKind.signed, IntKind.bits] at h
  omega
def betw (x lo hi : Int) : Bool := decide (lo ≤ x) && decide (x ≤ hi)
theorem betw_iff {x lo hi : Int} : betw x lo hi = true ↔ lo ≤ x ∧ x ≤ hi := by simp [betw]
def eI (x : Int) : List Value := [I x]
theorem eI_len (x : Int) : (eI x).length = 1 := rfl
theorem eI_one : ∀ x, ∀ u ∈ eI x, u.oneCell' = true := by intro x u hu; simp only [eI, List.mem_singleton] at hu; subst hu; rfl
def eU8 (x : Int) : List Value := [.int .u8 x]
theorem eU8_len (x : Int) : (eU8 x).length = 1 := rfl
theorem eU8_one : ∀ x, ∀ u ∈ eU8 x, u.oneCell' = true := by intro x u hu; simp only [eU8, List.mem_singleton] at hu; subst hu; rfl

/-! ### samples -/
structure Sam where
  l : Int
  r : Int
  deriving DecidableEq
instance : Inhabited Sam := ⟨⟨0, 0⟩⟩
def eSam (x : Sam) : List Value := [I x.l, I x.r]
theorem eSam_len (x : Sam) : (eSam x).length = 2 := rfl
theorem eSam_one : ∀ x, ∀ u ∈ eSam x, u.oneCell' = true := by intro x u hu; simp only [eSam, List.mem_cons, List.not_mem_nil, or_false] at hu; rcases hu with rfl | rfl <;> rfl
def Sam.wf (x : Sam) : Prop := I64 x.l ∧ I64 x.r
def Sam.ok (x : Sam) : Bool := betw x.l (-32767) 32767 && betw x.r (-32767) 32767
theorem Sam.ok_iff {x : Sam} : x.ok = true ↔ (-32767 ≤ x.l ∧ x.l ≤ 32767) ∧ (-32767 ≤ x.r ∧ x.r ≤ 32767) := by
  unfold Sam.ok; rw [Bool.and_eq_true, betw_iff, betw_iff]
def sErr (s : List Sam) : Int := if 4096 < s.length then 6 else if s.all Sam.ok = true then 0 else 2
theorem sErr_zero {s : List Sam} : sErr s = 0 ↔ s.length ≤ 4096 ∧ s.all Sam.ok = true := by
  unfold sErr
  split
  · constructor
    · intro h; cases h
    · intro h; omega
  · split
    · rename_i h1 h2; exact ⟨fun _ => ⟨by omega, h2⟩, fun _ => rfl⟩
    · rename_i h1 h2; exact ⟨fun h => (by cases h), fun h => absurd h.2 h2⟩
theorem sErr_cases (s : List Sam) : sErr s = 0 ∨ sErr s = 2 ∨ sErr s = 6 := by
  unfold sErr; split
  · exact .inr (.inr rfl)
  · split
    · exact .inl rfl
    · exact .inr (.inl rfl)
def amt (n : Int) : Int := max n (-n)
theorem amt_def (n : Int) : amt n = max n (-n) := rfl
def Sam.amts (x : Sam) : Sam := ⟨amt x.l, amt x.r⟩
def sad (a b : Sam) : Sam := ⟨a.l + b.l, a.r + b.r⟩

theorem getD_mem {α : Type} [Inhabited α] {l : List α} {i : Nat} (h : i < l.length) : l.getD i default ∈ l := by
  rw [List.getD, List.getElem?_eq_getElem h]; exact List.getElem_mem h
theorem all_getD {α : Type} [Inhabited α] {l : List α} {p : α → Bool} : l.all p = true ↔ ∀ i, i < l.length → p (l.getD i default) = true := by
  rw [List.all_eq_true]
  constructor
  · intro h i hi; exact h _ (getD_mem hi)
  · intro h x hx
    obtain ⟨i, hi, rfl⟩ := List.getElem_of_mem hx
    have := h i hi
    simpa [List.getD, hi] using this
theorem all_split {α : Type} [Inhabited α] {l : List α} {p : α → Bool} {i : Nat} (hi : i < l.length) (h : p (l.getD i default) = false) : l.all p = false := by
  rw [Bool.eq_false_iff]
  intro ha
  rw [all_getD.1 ha i hi] at h; cases h

/-! ### takes -/
def nmB (b : UInt8) : Bool := (decide (97 ≤ b.toNat) && decide (b.toNat ≤ 122)) || (decide (48 ≤ b.toNat) && decide (b.toNat ≤ 57))
def isNm (s : ByteArray) : Bool := decide (1 ≤ s.size) && decide (s.size ≤ 20) && s.data.toList.all nmB
structure Tk where
  name : ByteArray
  A : Option Addr
  c : Nat
  data : List Sam
instance : Inhabited Tk := ⟨⟨⟨#[]⟩, none, 0, []⟩⟩
def eTk (x : Tk) : List Value := [.string x.name, .slice x.A x.data.length x.c]
theorem eTk_len (x : Tk) : (eTk x).length = 2 := rfl
def Tk.wf (x : Tk) : Prop := x.name.size ≤ maxLen ∧ x.data.length ≤ x.c ∧ ∀ s ∈ x.data, s.wf
/-- takes that lie -/
def Tks (w : World) (A : Option Addr) (l : List Tk) : Prop := RdL w 2 eTk A l ∧ ∀ t ∈ l, RdL w 2 eSam t.A t.data ∧ t.wf
theorem Tks.sh {w0 w : World} {A : Option Addr} {l : List Tk} {H : Items} (h : Tks w0 A l) (m : SH w0 none' H w) : Tks w A l := ⟨h.1.sh m, fun t ht => ⟨(h.2 t ht).1.sh m, (h.2 t ht).2⟩⟩
def tErr (t : Tk) : Int := if 4096 < t.data.length then 6 else if (isNm t.name && decide (t.data.length ≠ 0) && t.data.all Sam.ok) = true then 0 else 2
theorem tErr_cases (t : Tk) : tErr t = 0 ∨ tErr t = 2 ∨ tErr t = 6 := by
  unfold tErr; split
  · exact .inr (.inr rfl)
  · split
    · exact .inl rfl
    · exact .inr (.inl rfl)
theorem tErr_zero {t : Tk} : tErr t = 0 ↔ t.data.length ≤ 4096 ∧ isNm t.name = true ∧ 0 < t.data.length ∧ t.data.all Sam.ok = true := by
  unfold tErr
  split
  · constructor
    · intro h; cases h
    · intro h; omega
  · split
    · rename_i h1 h2
      rw [Bool.and_eq_true, Bool.and_eq_true, decide_eq_true_iff] at h2
      exact ⟨fun _ => ⟨by omega, h2.1.1, by omega, h2.2⟩, fun _ => rfl⟩
    · rename_i h1 h2
      rw [Bool.and_eq_true, Bool.and_eq_true, decide_eq_true_iff] at h2
      exact ⟨fun h => (by cases h), fun h => absurd ⟨⟨h.2.1, by omega⟩, h.2.2.2⟩ h2⟩
theorem tErr_six {t : Tk} : tErr t = 6 ↔ 4096 < t.data.length := by
  unfold tErr
  split
  · rename_i h; exact ⟨fun _ => h, fun _ => rfl⟩
  · rename_i h1
    split
    · exact ⟨fun h => (by cases h), fun h => absurd h h1⟩
    · exact ⟨fun h => (by cases h), fun h => absurd h h1⟩
def lErr (l : List Tk) : Int :=
  if l.length < 1 ∨ 16 < l.length then 6 else if l.any (fun t => decide (tErr t = 6)) = true then 6 else if l.any (fun t => decide (tErr t ≠ 0)) = true then 2 else if (l.map Tk.name).Nodup then 0 else 12
structure TksOk (l : List Tk) : Prop where
  one : 1 ≤ l.length
  most : l.length ≤ 16
  each : ∀ t ∈ l, tErr t = 0
  apart : (l.map Tk.name).Nodup
theorem lErr_zero {l : List Tk} : lErr l = 0 ↔ TksOk l := by
  unfold lErr
  constructor
  · intro h
    split at h
    · cases h
    · rename_i h1
      split at h
      · cases h
      · split at h
        · cases h
        · rename_i h2 h3
          split at h
          · rename_i h4
            refine ⟨by omega, by omega, fun t ht => ?_, h4⟩
            rw [List.any_eq_true] at h3
            by_cases e : tErr t = 0
            · exact e
            · exact absurd ⟨t, ht, decide_eq_true e⟩ h3
          · cases h
  · intro h
    have h6 : ¬ l.any (fun t => decide (tErr t = 6)) = true := by
      rw [List.any_eq_true]; rintro ⟨t, ht, e⟩
      have := h.each t ht; rw [decide_eq_true_iff] at e; omega
    have h2 : ¬ l.any (fun t => decide (tErr t ≠ 0)) = true := by
      rw [List.any_eq_true]; rintro ⟨t, ht, e⟩
      have := h.each t ht; rw [decide_eq_true_iff] at e; omega
    have h1 := h.one
    have h3 := h.most
    rw [if_neg (by omega), if_neg h6, if_neg h2, if_pos h.apart]

/-! ### parts -/
structure Prt where
  tk : Int
  fr : Int
  to : Int
  gap : Int
  inn : Int
  out : Int
  lev : Int
  deriving DecidableEq
instance : Inhabited Prt := ⟨⟨0, 0, 0, 0, 0, 0, 0⟩⟩
def ePrt (x : Prt) : List Value := [I x.tk, I x.fr, I x.to, I x.gap, I x.inn, I x.out, I x.lev]
theorem ePrt_len (x : Prt) : (ePrt x).length = 7 := rfl
theorem ePrt_one : ∀ x, ∀ u ∈ ePrt x, u.oneCell' = true := by intro x u hu; simp only [ePrt, List.mem_cons, List.not_mem_nil, or_false] at hu; rcases hu with rfl | rfl | rfl | rfl | rfl | rfl | rfl <;> rfl
def Prt.wf (x : Prt) : Prop := (I64 x.tk ∧ I64 x.fr ∧ I64 x.to) ∧ I64 x.gap ∧ I64 x.inn ∧ I64 x.out ∧ I64 x.lev
def tkOf (l : List Tk) (x : Prt) : Tk := l.getD x.tk.toNat default
def goodP (l : List Tk) (x : Prt) : Bool :=
  decide (0 ≤ x.tk) && decide (x.tk < (l.length : Int)) && decide (0 ≤ x.fr) && decide (x.fr < x.to) && decide (x.to ≤ ((tkOf l x).data.length : Int)) && betw x.gap (-4096) 4096 && betw x.inn 0 1000 && betw x.out 0 1000 && betw x.lev 0 4000
structure PrtOk (l : List Tk) (x : Prt) : Prop where
  tk0 : 0 ≤ x.tk
  tk1 : x.tk < (l.length : Int)
  fr0 : 0 ≤ x.fr
  frto : x.fr < x.to
  to1 : x.to ≤ ((tkOf l x).data.length : Int)
  gap : -4096 ≤ x.gap ∧ x.gap ≤ 4096
  inn : 0 ≤ x.inn ∧ x.inn ≤ 1000
  out : 0 ≤ x.out ∧ x.out ≤ 1000
  lev : 0 ≤ x.lev ∧ x.lev ≤ 4000
theorem goodP_iff {l : List Tk} {x : Prt} : goodP l x = true ↔ PrtOk l x := by
  unfold goodP
  simp only [Bool.and_eq_true, betw_iff, decide_eq_true_iff]
  constructor
  · rintro ⟨⟨⟨⟨⟨⟨⟨⟨h1, h2⟩, h3⟩, h4⟩, h5⟩, h6⟩, h7⟩, h8⟩, h9⟩; exact ⟨h1, h2, h3, h4, h5, h6, h7, h8, h9⟩
  · rintro ⟨h1, h2, h3, h4, h5, h6, h7, h8, h9⟩; exact ⟨⟨⟨⟨⟨⟨⟨⟨h1, h2⟩, h3⟩, h4⟩, h5⟩, h6⟩, h7⟩, h8⟩, h9⟩
def fin (p : List Prt) : Int := (p.map fun x => x.gap + (x.to - x.fr)).sum
def pt (p : List Prt) (i : Nat) : Prt := p.getD i default
def lng (x : Prt) : Int := x.to - x.fr
def bgn (p : List Prt) (i : Nat) : Int := fin (p.take i) + (pt p i).gap
def en (p : List Prt) (i : Nat) : Int := bgn p i + lng (pt p i)
theorem take_succ {p : List Prt} {i : Nat} (hi : i < p.length) : p.take (i + 1) = p.take i ++ [pt p i] := by
  rw [List.take_add_one, List.getElem?_eq_getElem hi]; simp [pt, List.getD, hi]
theorem fin_nil : fin [] = 0 := rfl
theorem fin_app (p q : List Prt) : fin (p ++ q) = fin p + fin q := by unfold fin; rw [List.map_append, List.sum_append]
theorem fin_one (x : Prt) : fin [x] = x.gap + lng x := by unfold fin lng; simp
theorem fin_take {p : List Prt} {i : Nat} (hi : i < p.length) : fin (p.take (i + 1)) = en p i := by
  rw [take_succ hi, fin_app, fin_one]; unfold en bgn; omega
theorem fin_all (p : List Prt) : fin (p.take p.length) = fin p := by rw [List.take_length]
/-- a part of a possible programme -/
def posOk (p : List Prt) (i : Nat) : Prop := (i = 0 → 0 ≤ bgn p i) ∧ (0 < i → bgn p (i - 1) ≤ bgn p i ∧ en p (i - 1) ≤ en p i) ∧ (1 < i → en p (i - 2) ≤ bgn p i)
instance (p : List Prt) (i : Nat) : Decidable (posOk p i) := inferInstanceAs (Decidable (_ ∧ _))
def Poss (p : List Prt) : Prop := (∀ i, i < p.length → posOk p i) ∧ fin p ≤ 4096
instance (p : List Prt) : Decidable (Poss p) := inferInstanceAs (Decidable ((∀ i, i < p.length → posOk p i) ∧ fin p ≤ 4096))
def gErr (l : List Tk) (p : List Prt) : Int := if lErr l = 0 then (if 32 < p.length then 6 else if p.all (goodP l) = true then (if Poss p then 0 else 15) else 2) else lErr l
structure ProgOk (l : List Tk) (p : List Prt) : Prop where
  tks : TksOk l
  most : p.length ≤ 32
  each : ∀ i, i < p.length → PrtOk l (pt p i)
  pos : ∀ i, i < p.length → posOk p i
  fin : fin p ≤ 4096
theorem gErr_zero {l : List Tk} {p : List Prt} : gErr l p = 0 ↔ ProgOk l p := by
  unfold gErr
  constructor
  · intro h
    split at h
    · rename_i h0
      split at h
      · cases h
      · split at h
        · rename_i h1 h2
          split at h
          · rename_i h3
            exact ⟨lErr_zero.1 h0, by omega, fun i hi => goodP_iff.1 (all_getD.1 h2 i hi), h3.1, h3.2⟩
          · cases h
        · cases h
    · contradiction
  · rintro ⟨h1, h2, h3, h4, h5⟩
    rw [if_pos (lErr_zero.2 h1), if_neg (by omega), if_pos (all_getD.2 fun i hi => goodP_iff.2 (h3 i hi)), if_pos ⟨h4, h5⟩]
theorem lng_pos {l : List Tk} {x : Prt} (h : PrtOk l x) : 0 < lng x := by unfold lng; have := h.frto; omega
theorem bgn_nn {p : List Prt} {n : Nat} (h : ∀ i, i < n → posOk p i) : ∀ i, i < n → 0 ≤ bgn p i := by
  intro i
  induction i with
  | zero => intro hi; exact (h 0 hi).1 rfl
  | succ i ih => intro hi; have h1 := ih (by omega); have h2 := ((h (i + 1) hi).2.1 (by omega)).1; simp only [Nat.add_sub_cancel] at h2; omega
theorem bgn_mono {l : List Tk} {p : List Prt} (h : ProgOk l p) : ∀ i, i < p.length → 0 ≤ bgn p i := by
  intro i
  induction i with
  | zero => intro hi; exact (h.pos 0 hi).1 rfl
  | succ i ih => intro hi; have h1 := ih (by omega); have h2 := ((h.pos (i + 1) hi).2.1 (by omega)).1; simp only [Nat.add_sub_cancel] at h2; omega
theorem en_mono {l : List Tk} {p : List Prt} (h : ProgOk l p) : ∀ i j, i ≤ j → j < p.length → en p i ≤ en p j := by
  intro i j hij
  induction j with
  | zero => intro _; rw [show i = 0 by omega]; exact Int.le_refl _
  | succ j ih =>
    intro hj
    by_cases e : i = j + 1
    · rw [e]; exact Int.le_refl _
    · have h1 := ih (by omega) (by omega)
      have h2 := ((h.pos (j + 1) hj).2.1 (by omega)).2
      simp only [Nat.add_sub_cancel] at h2; omega
theorem en_fin {l : List Tk} {p : List Prt} (h : ProgOk l p) {i : Nat} (hi : i < p.length) : en p i ≤ fin p := by
  have h1 := en_mono h i (p.length - 1) (by omega) (by omega)
  have h2 := fin_take (p := p) (i := p.length - 1) (by omega)
  rw [show p.length - 1 + 1 = p.length by omega, fin_all] at h2
  omega
theorem fin_nonneg {l : List Tk} {p : List Prt} (h : ProgOk l p) : 0 ≤ fin p := by
  rcases Nat.eq_zero_or_pos p.length with h0 | h0
  · rw [List.length_eq_zero_iff.1 h0]; exact Int.le_refl _
  · have h1 := en_fin h h0
    have h2 := bgn_mono h 0 h0
    have h3 := lng_pos (h.each 0 h0)
    unfold en at h1; omega

/-- a part in its place -/
structure Plc where
  prt : Prt
  ix : Int
  b : Int
  e : Int
instance : Inhabited Plc := ⟨⟨default, 0, 0, 0⟩⟩
def ePlc (x : Plc) : List Value := [I x.prt.tk, I x.prt.fr, I x.prt.to, I x.prt.gap, I x.prt.inn, I x.prt.out, I x.prt.lev, I x.ix, I x.b, I x.e]
theorem ePlc_len (x : Plc) : (ePlc x).length = 10 := rfl
theorem ePlc_one : ∀ x, ∀ u ∈ ePlc x, u.oneCell' = true := by intro x u hu; simp only [ePlc, List.mem_cons, List.not_mem_nil, or_false] at hu; rcases hu with rfl | rfl | rfl | rfl | rfl | rfl | rfl | rfl | rfl | rfl <;> rfl
def plc (p : List Prt) (i : Nat) : Plc := ⟨pt p i, i, bgn p i, en p i⟩
def plcs (p : List Prt) (n : Nat) : List Plc := (List.range n).map (plc p)
theorem ePlc_plc (p : List Prt) (i : Nat) : ePlc (plc p i) = [I (pt p i).tk, I (pt p i).fr, I (pt p i).to, I (pt p i).gap, I (pt p i).inn, I (pt p i).out, I (pt p i).lev, I i, I (bgn p i), I (en p i)] := rfl
theorem plcs_len (p : List Prt) (n : Nat) : (plcs p n).length = n := by simp [plcs]
theorem plcs_succ (p : List Prt) (n : Nat) : plcs p (n + 1) = plcs p n ++ [plc p n] := by simp [plcs, List.range_succ]
theorem plcs_get {p : List Prt} {n i : Nat} (hi : i < n) : (plcs p n).getD i default = plc p i := by simp [plcs, List.getD, hi]

/-! ### sounds -/
def up (x : Prt) (k : Int) : Int := min k x.inn + 1
def dn (x : Prt) (k : Int) : Int := min (lng x - k - 1) x.out + 1
def gnN (x : Prt) (k lev : Int) : Int := lev * up x k * dn x k
def gnD (x : Prt) : Int := 1000 * (x.inn + 1) * (x.out + 1)
def ld (s : Int) (x : Prt) (k lev : Int) : Int := (s * gnN x k lev).tdiv (gnD x)
def smp (l : List Tk) (x : Prt) (k : Int) : Sam := (tkOf l x).data.getD (x.fr + k).toNat default
def snd (l : List Tk) (x : Prt) (k lev : Int) : Sam := ⟨ld (smp l x k).l x k lev, ld (smp l x k).r x k lev⟩
theorem up_bd {l : List Tk} {x : Prt} (h : PrtOk l x) {k : Int} (h0 : 0 ≤ k) : 1 ≤ up x k ∧ up x k ≤ x.inn + 1 := by
  unfold up; have := h.inn; omega
theorem dn_bd {l : List Tk} {x : Prt} (h : PrtOk l x) {k : Int} (h1 : k < lng x) : 1 ≤ dn x k ∧ dn x k ≤ x.out + 1 := by
  unfold dn; have := h.out; omega
theorem mul_bd {a b A B : Int} (h0 : 0 ≤ a) (h1 : a ≤ A) (h2 : 0 ≤ b) (h3 : b ≤ B) : 0 ≤ a * b ∧ a * b ≤ A * B := ⟨Int.mul_nonneg h0 h2, Int.mul_le_mul h1 h3 h2 (by omega)⟩
theorem gnD_pos {l : List Tk} {x : Prt} (h : PrtOk l x) : 1000 ≤ gnD x ∧ gnD x ≤ 1002001000 := by
  unfold gnD
  have h1 := h.inn; have h2 := h.out
  have := mul_bd (a := x.inn + 1 - 1) (b := x.out + 1 - 1) (A := 1000) (B := 1000) (by omega) (by omega) (by omega) (by omega)
  have e : 1000 * (x.inn + 1) * (x.out + 1) = 1000 * ((x.inn + 1 - 1) * (x.out + 1 - 1)) + 1000 * x.inn + 1000 * x.out + 1000 := by
    rw [show x.inn + 1 - 1 = x.inn by omega, show x.out + 1 - 1 = x.out by omega, Int.mul_assoc, Int.add_mul, Int.mul_add]; simp only [Int.mul_add, Int.one_mul, Int.mul_one]; omega
  omega
theorem gnN_bd {l : List Tk} {x : Prt} (h : PrtOk l x) {k lev : Int} (h0 : 0 ≤ k) (h1 : k < lng x) (h2 : 0 ≤ lev) : 0 ≤ gnN x k lev ∧ 1000 * gnN x k lev ≤ lev * gnD x := by
  have hu := up_bd h h0
  have hd := dn_bd h h1
  have a1 := mul_bd (a := up x k) (b := dn x k) (by omega) hu.2 (by omega) hd.2
  have a2 := mul_bd (a := lev) (b := up x k * dn x k) h2 (Int.le_refl _) a1.1 a1.2
  unfold gnN gnD
  rw [Int.mul_assoc lev]
  refine ⟨a2.1, ?_⟩
  rw [Int.mul_assoc 1000, Int.mul_left_comm lev 1000]
  exact Int.mul_le_mul_of_nonneg_left a2.2 (by omega)
theorem tdiv_bd {a d c : Int} (hd : 0 < d) (hc : 0 ≤ c) (h : 1000 * amt a ≤ c * d) : 1000 * amt (a.tdiv d) ≤ c := by
  rcases Int.le_total 0 a with h0 | h0
  · have e : amt a = a := by unfold amt; omega
    have q0 : 0 ≤ a.tdiv d := Int.tdiv_nonneg h0 (by omega)
    have e2 : amt (a.tdiv d) = a.tdiv d := by unfold amt; omega
    rw [e] at h; rw [e2]
    have h1 : a.tdiv d * d ≤ a := by rw [Int.tdiv_eq_ediv_of_nonneg h0]; exact Int.ediv_mul_le a (by omega)
    have h2 : (1000 * a.tdiv d) * d ≤ c * d := by rw [Int.mul_assoc]; omega
    exact Int.le_of_mul_le_mul_right h2 hd
  · have e : amt a = -a := by unfold amt; omega
    have hn : a.tdiv d = -((-a).tdiv d) := by rw [Int.neg_tdiv, Int.neg_neg]
    have q0 : 0 ≤ (-a).tdiv d := Int.tdiv_nonneg (by omega) (by omega)
    have e2 : amt (a.tdiv d) = (-a).tdiv d := by unfold amt; omega
    rw [e] at h; rw [e2]
    have h1 : (-a).tdiv d * d ≤ -a := by rw [Int.tdiv_eq_ediv_of_nonneg (by omega)]; exact Int.ediv_mul_le (-a) (by omega)
    have h2 : (1000 * (-a).tdiv d) * d ≤ c * d := by rw [Int.mul_assoc]; omega
    exact Int.le_of_mul_le_mul_right h2 hd
theorem amt_mul {a b : Int} (hb : 0 ≤ b) : amt (a * b) = amt a * b := by
  unfold amt
  rcases Int.le_total 0 a with h | h
  · have := Int.mul_nonneg h hb
    rw [Int.max_eq_left (by omega), Int.max_eq_left (by omega)]
  · have h1 : a * b ≤ 0 := by have := Int.mul_nonneg (a := -a) (by omega) hb; rw [Int.neg_mul] at this; omega
    rw [Int.max_eq_right (by omega), Int.max_eq_right (by omega), Int.neg_mul]
theorem amt_nonneg (a : Int) : 0 ≤ amt a := by unfold amt; omega
theorem ld_bd {l : List Tk} {x : Prt} (h : PrtOk l x) {s k lev : Int} (h0 : 0 ≤ k) (h1 : k < lng x) (h2 : 0 ≤ lev) : 1000 * amt (ld s x k lev) ≤ amt s * lev := by
  have hg := gnN_bd h h0 h1 h2
  have hd := (gnD_pos h).1
  unfold ld
  refine tdiv_bd (by omega) (Int.mul_nonneg (amt_nonneg s) h2) ?_
  rw [amt_mul hg.1, ← Int.mul_assoc, Int.mul_comm 1000, Int.mul_assoc, Int.mul_assoc]
  exact Int.mul_le_mul_of_nonneg_left hg.2 (amt_nonneg s)
theorem ld_sign {l : List Tk} {x : Prt} (h : PrtOk l x) {s k lev : Int} (h0 : 0 ≤ k) (h1 : k < lng x) (h2 : 0 ≤ lev) : (0 ≤ s → 0 ≤ ld s x k lev) ∧ (s ≤ 0 → ld s x k lev ≤ 0) := by
  have hg := gnN_bd h h0 h1 h2
  have hd := (gnD_pos h).1
  unfold ld
  constructor
  · intro hs; exact Int.tdiv_nonneg (Int.mul_nonneg hs hg.1) (by omega)
  · intro hs
    have : 0 ≤ (-(s * gnN x k lev)).tdiv (gnD x) := Int.tdiv_nonneg (by have := Int.mul_nonneg (a := -s) (by omega) hg.1; rw [Int.neg_mul] at this; omega) (by omega)
    rw [Int.neg_tdiv] at this; omega

/-! ### mixes -/
/-- what parts sound at a time, of the first n parts -/
def mixN (p : List Prt) (v : Nat → Int → Sam) : Nat → Int → Sam
  | 0, _ => ⟨0, 0⟩
  | n + 1, t => if bgn p n ≤ t ∧ t < en p n then sad (mixN p v n t) (v n (t - bgn p n)) else mixN p v n t
def mix (p : List Prt) (v : Nat → Int → Sam) : List Sam := (List.range (fin p).toNat).map fun (t : Nat) => mixN p v p.length t
def vR (l : List Tk) (p : List Prt) (i : Nat) (k : Int) : Sam := snd l (pt p i) k (pt p i).lev
def vH (l : List Tk) (p : List Prt) (f : Int) (i : Nat) (k : Int) : Sam := (snd l (pt p i) k (((pt p i).lev * f).tdiv 1000)).amts
def rend (l : List Tk) (p : List Prt) : List Sam := mix p (vR l p)
/-- the error of Render -/
def rErr (l : List Tk) (p : List Prt) : Int := if gErr l p = 0 then (if sErr (rend l p) = 0 then 0 else 4) else gErr l p
def rendL (l : List Tk) (p : List Prt) : List Sam := if rErr l p = 0 then rend l p else []
theorem mix_len (p : List Prt) (v : Nat → Int → Sam) : (mix p v).length = (fin p).toNat := by simp [mix]
theorem mix_get {p : List Prt} {v : Nat → Int → Sam} {t : Nat} (h : t < (fin p).toNat) : (mix p v).getD t default = mixN p v p.length t := by simp [mix, List.getD, h]
def Sam.bd (s : Sam) (B : Int) : Prop := (-B ≤ s.l ∧ s.l ≤ B) ∧ (-B ≤ s.r ∧ s.r ≤ B)
theorem mixN_bd {p : List Prt} {v : Nat → Int → Sam} {B : Int} (hB : 0 ≤ B) : ∀ n t, n ≤ p.length → (∀ i k, i < p.length → 0 ≤ k → k < lng (pt p i) → (v i k).bd B) → (mixN p v n t).bd (n * B) := by
  intro n t hn hv
  induction n with
  | zero => exact ⟨⟨by simp [mixN], by simp [mixN]⟩, ⟨by simp [mixN], by simp [mixN]⟩⟩
  | succ n ih =>
    have hi := ih (by omega)
    have e : ((n + 1 : Nat) : Int) * B = n * B + B := by rw [Int.natCast_succ, Int.add_mul, Int.one_mul]
    rw [e]
    unfold mixN
    unfold Sam.bd at hi ⊢
    split
    · rename_i h
      have hb := hv n (t - bgn p n) (by omega) (by omega) (by have := h.2; unfold en at this; omega)
      unfold Sam.bd at hb
      simp only [sad]
      omega
    · omega
theorem Sam.bd.mono {s : Sam} {B C : Int} (h : s.bd B) (hb : B ≤ C) : s.bd C := by unfold Sam.bd at h ⊢; omega
/-- a mix, of the parts before i everywhere, and of the part i before t -/
def mixS (p : List Prt) (v : Nat → Int → Sam) (i : Nat) (t : Int) : List Sam := (List.range (fin p).toNat).map fun (s : Nat) => if bgn p i ≤ s ∧ (s : Int) < t then mixN p v (i + 1) s else mixN p v i s
def mixP (p : List Prt) (v : Nat → Int → Sam) (i : Nat) : List Sam := (List.range (fin p).toNat).map fun (s : Nat) => mixN p v i s
theorem mixS_len (p : List Prt) (v : Nat → Int → Sam) (i : Nat) (t : Int) : (mixS p v i t).length = (fin p).toNat := by simp [mixS]
theorem mixP_len (p : List Prt) (v : Nat → Int → Sam) (i : Nat) : (mixP p v i).length = (fin p).toNat := by simp [mixP]
theorem mixP_zero (p : List Prt) (v : Nat → Int → Sam) : mixP p v 0 = List.replicate (fin p).toNat ⟨0, 0⟩ := by
  unfold mixP
  rw [List.eq_replicate_iff]
  refine ⟨by simp, fun b hb => ?_⟩
  obtain ⟨i, _, rfl⟩ := List.mem_map.1 hb
  rfl
theorem mixS_begin (p : List Prt) (v : Nat → Int → Sam) (i : Nat) : mixS p v i (bgn p i) = mixP p v i := by
  unfold mixS mixP
  apply List.map_congr_left
  intro s _
  rw [if_neg (by omega)]
theorem mixS_end (p : List Prt) (v : Nat → Int → Sam) (i : Nat) : mixS p v i (en p i) = mixP p v (i + 1) := by
  unfold mixS mixP
  apply List.map_congr_left
  intro s _
  by_cases h : bgn p i ≤ s ∧ (s : Int) < en p i
  · rw [if_pos h]
  · rw [if_neg h]; conv => rhs; rw [mixN, if_neg h]
theorem mixS_at {p : List Prt} {v : Nat → Int → Sam} {i t : Nat} (h : t < (fin p).toNat) : (mixS p v i t).getD t default = mixN p v i t := by
  simp [mixS, List.getD, h]
theorem mixS_set {p : List Prt} {v : Nat → Int → Sam} {i t : Nat} (h : t < (fin p).toNat) (h1 : bgn p i ≤ t) (h2 : (t : Int) < en p i) : (mixS p v i t).set t (sad (mixN p v i t) (v i (t - bgn p i))) = mixS p v i ((t : Int) + 1) := by
  apply List.ext_getElem (by simp [mixS])
  intro q h3 h4
  rw [List.getElem_set]
  simp only [mixS, List.getElem_map, List.getElem_range]
  by_cases e : t = q
  · subst e
    rw [if_pos rfl, if_pos ⟨h1, by omega⟩]
    conv => rhs; rw [mixN, if_pos ⟨h1, h2⟩]
  · rw [if_neg e]
    by_cases hc : bgn p i ≤ (q : Int) ∧ (q : Int) < t
    · rw [if_pos hc, if_pos ⟨hc.1, by omega⟩]
    · rw [if_neg hc, if_neg (by omega)]
theorem mixP_all (p : List Prt) (v : Nat → Int → Sam) : mixP p v p.length = mix p v := rfl
theorem smp_ok {l : List Tk} {x : Prt} (hl : TksOk l) (h : PrtOk l x) {k : Int} (h0 : 0 ≤ k) (h1 : k < lng x) : (x.fr + k).toNat < (tkOf l x).data.length ∧ x.tk.toNat < l.length ∧ (-32767 ≤ (smp l x k).l ∧ (smp l x k).l ≤ 32767) ∧ (-32767 ≤ (smp l x k).r ∧ (smp l x k).r ≤ 32767) := by
  have a := h.tk0; have b := h.tk1; have c := h.fr0; have d := h.frto; have e := h.to1
  unfold lng at h1
  have h2 : (x.fr + k).toNat < (tkOf l x).data.length := by omega
  have h3 : x.tk.toNat < l.length := by omega
  have h4 := (tErr_zero.1 (hl.each _ (getD_mem h3))).2.2.2
  have h5 := Sam.ok_iff.1 (all_getD.1 h4 _ h2)
  exact ⟨h2, h3, h5⟩
theorem snd_bd {l : List Tk} {x : Prt} (hl : TksOk l) (h : PrtOk l x) {k lev : Int} (h0 : 0 ≤ k) (h1 : k < lng x) (h2 : 0 ≤ lev) (h3 : lev ≤ 16000) : (snd l x k lev).bd 1000000 := by
  obtain ⟨_, _, s1, s2⟩ := smp_ok hl h h0 h1
  have b1 := ld_bd h (s := (smp l x k).l) h0 h1 h2
  have b2 := ld_bd h (s := (smp l x k).r) h0 h1 h2
  have c1 := mul_bd (amt_nonneg (smp l x k).l) (A := 32767) (by unfold amt; omega) h2 h3
  have c2 := mul_bd (amt_nonneg (smp l x k).r) (A := 32767) (by unfold amt; omega) h2 h3
  have d1 : 1000 * amt (ld (smp l x k).l x k lev) ≤ 524272000 := by omega
  have d2 : 1000 * amt (ld (smp l x k).r x k lev) ≤ 524272000 := by omega
  unfold amt at d1 d2
  unfold Sam.bd snd
  dsimp only
  omega
end Go.Proofs.YtdcjgjopmicidaaDoor
