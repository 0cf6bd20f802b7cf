/- What listening comes to, in plain Lean: numbers, plates, discs, causes. -/
import Derived.Test.YtfaggcmcfhljpaaSx8
namespace Go.Proofs.Ytfaggcmcfhljpaa
open Go.Sx

/-- an int64 -/
def I64 (x : Int) : Prop := -9223372036854775808 ≤ x ∧ x ≤ 9223372036854775807
theorem I64.of {x : Int} (h : (Lit.int .i64 x).wf = true) : I64 x := by
  simp [Lit.wf, IntKind.min, IntKind.max, IntKind.signed, IntKind.bits] at h
  unfold I64; omega
theorem u8_of {x : Int} (h : (Lit.int .u8 x).wf = true) : 0 ≤ x ∧ x ≤ 255 := by
  simp [Lit.wf, IntKind.min, IntKind.max, IntKind.signed, IntKind.bits] at h
  omega
theorem u16_of {x : Int} (h : (Lit.int .u16 x).wf = true) : 0 ≤ x ∧ x ≤ 65535 := by
  simp [Lit.wf, IntKind.min, IntKind.max, IntKind.signed, IntKind.bits] at h
  omega
def betw (x lo hi : Int) : Bool := decide (lo ≤ x) && decide (x ≤ hi)
theorem betw_iff {x lo hi : Int} : betw x lo hi = true ↔ lo ≤ x ∧ x ≤ hi := by simp [betw]
def eI (x : Int) : List Value := [I x]
theorem eI_len (x : Int) : (eI x).length = 1 := rfl
theorem eI_one : ∀ x, ∀ u ∈ eI x, u.oneCell' = true := by intro x u hu; simp only [eI, List.mem_singleton] at hu; subst hu; rfl
def eB (x : Bool) : List Value := [.bool x]
theorem eB_len (x : Bool) : (eB x).length = 1 := rfl
theorem eB_one : ∀ x, ∀ u ∈ eB x, u.oneCell' = true := by intro x u hu; simp only [eB, List.mem_singleton] at hu; subst hu; rfl

def eU8 (x : Int) : List Value := [.int .u8 x]
theorem eU8_len (x : Int) : (eU8 x).length = 1 := rfl

structure Plt where
  kind : Int
  par : Int
  cut : Int
  area : Int
  thick : Int
  grown : Int
  ret : Bool
instance : Inhabited Plt := ⟨⟨0, 0, 0, 0, 0, 0, false⟩⟩
def ePlt (x : Plt) : List Value := [I x.kind, I x.par, I x.cut, I x.area, I x.thick, I x.grown, .bool x.ret]
theorem ePlt_len (x : Plt) : (ePlt x).length = 7 := rfl
def Plt.wf (x : Plt) : Prop := I64 x.kind ∧ I64 x.par
structure Dsc where
  ser : Int
  a : Int
  b : Int
  time : Int
  held : Int
  peak : Int
  good : Bool
instance : Inhabited Dsc := ⟨⟨0, 0, 0, 0, 0, 0, false⟩⟩
def eDsc (x : Dsc) : List Value := [I x.ser, I x.a, I x.b, I x.time, I x.held, I x.peak, .bool x.good]
theorem eDsc_len (x : Dsc) : (eDsc x).length = 7 := rfl
def Dsc.wf (x : Dsc) : Prop := I64 x.ser ∧ I64 x.a ∧ I64 x.b
structure Hrg where
  ser : Int
  yes : Bool
instance : Inhabited Hrg := ⟨⟨0, false⟩⟩
def eHrg (x : Hrg) : List Value := [I x.ser, .bool x.yes]
theorem eHrg_len (x : Hrg) : (eHrg x).length = 2 := rfl
theorem eHrg_one : ∀ x, ∀ u ∈ eHrg x, u.oneCell' = true := by intro x u hu; simp only [eHrg, List.mem_cons, List.not_mem_nil, or_false] at hu; rcases hu with rfl | rfl <;> rfl
def Hrg.wf (x : Hrg) : Prop := I64 x.ser
structure Cau where
  plate : Int
  frm : Int
  deriving DecidableEq
instance : Inhabited Cau := ⟨⟨0, 0⟩⟩
def eCau (x : Cau) : List Value := [I x.plate, I x.frm]
theorem eCau_len (x : Cau) : (eCau x).length = 2 := rfl
theorem eCau_one : ∀ x, ∀ u ∈ eCau x, u.oneCell' = true := by intro x u hu; simp only [eCau, List.mem_cons, List.not_mem_nil, or_false] at hu; rcases hu with rfl | rfl <;> rfl

/-! ### which plates and discs are valid -/
def plOk (p : List Plt) (i : Nat) : Bool :=
  (decide ((p.getD i default).kind = 0) && decide ((p.getD i default).par = -1)) ||
  (betw (p.getD i default).kind 1 3 && betw (p.getD i default).par 0 ((i : Int) - 1) && decide ((p.getD (p.getD i default).par.toNat default).kind + 1 = (p.getD i default).kind))
def PlOk (p : List Plt) : Prop := ∀ i, i < p.length → plOk p i = true
instance (p : List Plt) : Decidable (PlOk p) := inferInstanceAs (Decidable (∀ i, i < p.length → plOk p i = true))
def plCheck (p : List Plt) : Int := if 256 < p.length then 6 else if PlOk p then 0 else 2
def stamp (p : List Plt) (n : Int) : Bool := betw n 1 p.length && decide ((p.getD (n - 1).toNat default).kind = 3)
def prevS (d : List Dsc) (i : Nat) : Int := if i = 0 then -1 else (d.getD (i - 1) default).ser
def dsOk (p : List Plt) (d : List Dsc) (i : Nat) : Bool := decide (prevS d i < (d.getD i default).ser) && stamp p (d.getD i default).a && stamp p (d.getD i default).b
def DsOk (p : List Plt) (d : List Dsc) : Prop := ∀ i, i < d.length → dsOk p d i = true
instance (p : List Plt) (d : List Dsc) : Decidable (DsOk p d) := inferInstanceAs (Decidable (∀ i, i < d.length → dsOk p d i = true))
def dsCheck (p : List Plt) (d : List Dsc) : Int := if plCheck p = 0 then (if 200 < d.length then 6 else if DsOk p d then 0 else 2) else plCheck p
def beginE (p : List Plt) (d : List Dsc) (side : Int) : Int := if dsCheck p d = 0 then (if side = 0 ∨ side = 1 then 0 else 3) else dsCheck p d
/-- plates, discs and a side that are valid -/
structure Room (p : List Plt) (d : List Dsc) (side : Int) : Prop where
  pl : p.length ≤ 256
  plok : PlOk p
  dl : d.length ≤ 200
  dsok : DsOk p d
  side : side = 0 ∨ side = 1
theorem plCheck_zero {p : List Plt} : plCheck p = 0 ↔ p.length ≤ 256 ∧ PlOk p := by
  unfold plCheck
  split
  · constructor
    · intro h; cases h
    · intro h; omega
  · split
    · rename_i h1 h2; exact ⟨fun _ => ⟨by omega, h2⟩, fun _ => rfl⟩
    · rename_i h1 h2; exact ⟨fun h => (by cases h), fun h => absurd h.2 h2⟩
theorem dsCheck_zero {p : List Plt} {d : List Dsc} : dsCheck p d = 0 ↔ plCheck p = 0 ∧ d.length ≤ 200 ∧ DsOk p d := by
  unfold dsCheck
  split
  · rename_i h0
    split
    · constructor
      · intro h; cases h
      · intro h; omega
    · split
      · rename_i h1 h2; exact ⟨fun _ => ⟨h0, by omega, h2⟩, fun _ => rfl⟩
      · rename_i h1 h2; exact ⟨fun h => (by cases h), fun h => absurd h.2.2 h2⟩
  · rename_i h0; exact ⟨fun h => absurd h h0, fun h => absurd h.1 h0⟩
theorem beginE_zero {p : List Plt} {d : List Dsc} {side : Int} : beginE p d side = 0 ↔ Room p d side := by
  unfold beginE
  constructor
  · intro h
    split at h
    · rename_i h0
      obtain ⟨h1, h2, h3⟩ := dsCheck_zero.1 h0
      obtain ⟨h4, h5⟩ := plCheck_zero.1 h1
      split at h
      · rename_i h6; exact ⟨h4, h5, h2, h3, h6⟩
      · cases h
    · rename_i h0; exact absurd h h0
  · intro h
    rw [if_pos (dsCheck_zero.2 ⟨plCheck_zero.2 ⟨h.pl, h.plok⟩, h.dl, h.dsok⟩), if_pos h.side]

/-- what is known of a plate -/
theorem Room.plate {p : List Plt} (h : PlOk p) {i : Nat} (hi : i < p.length) : -1 ≤ (p.getD i default).par ∧ (p.getD i default).par < i ∧ 0 ≤ (p.getD i default).kind ∧ (p.getD i default).kind ≤ 3 ∧ ((p.getD i default).kind = 0 → (p.getD i default).par = -1) ∧ ((p.getD i default).kind ≠ 0 → 0 ≤ (p.getD i default).par ∧ (p.getD (p.getD i default).par.toNat default).kind + 1 = (p.getD i default).kind) := by
  have := h i hi
  unfold plOk at this
  simp only [Bool.or_eq_true, Bool.and_eq_true, decide_eq_true_eq, betw_iff] at this
  omega
/-- the stamper of a disc on a side -/
def ofS (x : Dsc) (side : Int) : Int := (if side = 0 then x.a else x.b) - 1
theorem ofS_in {p : List Plt} {d : List Dsc} {side : Int} (h : DsOk p d) {i : Nat} (hi : i < d.length) : 0 ≤ ofS (d.getD i default) side ∧ ofS (d.getD i default) side < p.length ∧ (p.getD (ofS (d.getD i default) side).toNat default).kind = 3 := by
  have := h i hi
  unfold dsOk stamp at this
  simp only [Bool.and_eq_true, decide_eq_true_eq, betw_iff] at this
  unfold ofS
  split <;> omega
def serS (d : List Dsc) : List Int := d.map Dsc.ser
def stmS (d : List Dsc) (side : Int) : List Int := d.map fun x => ofS x side
theorem serS_len (d : List Dsc) : (serS d).length = d.length := by simp [serS]
theorem stmS_len (d : List Dsc) (side : Int) : (stmS d side).length = d.length := by simp [stmS]
theorem serS_get {d : List Dsc} {i : Nat} (hi : i < d.length) : (serS d).getD i default = (d.getD i default).ser := by simp [serS, List.getD, hi]
theorem stmS_get {d : List Dsc} {side : Int} {i : Nat} (hi : i < d.length) : (stmS d side).getD i default = ofS (d.getD i default) side := by simp [stmS, List.getD, hi]
/-- serial numbers rise -/
theorem ser_lt {p : List Plt} {d : List Dsc} (h : DsOk p d) : ∀ {i j : Nat}, i < j → j < d.length → (d.getD i default).ser < (d.getD j default).ser := by
  intro i j hij
  induction j with
  | zero => omega
  | succ j ih =>
    intro hj
    have h1 := h (j + 1) hj
    unfold dsOk prevS at h1
    simp only [Bool.and_eq_true, decide_eq_true_eq] at h1
    rw [if_neg (by omega)] at h1
    have h2 := h1.1.1
    rw [show j + 1 - 1 = j by omega] at h2
    rcases Nat.lt_or_ge i j with h3 | h3
    · have := ih h3 (by omega); omega
    · obtain rfl : i = j := by omega
      exact h2
theorem ser_inj {p : List Plt} {d : List Dsc} (h : DsOk p d) {i j : Nat} (hi : i < d.length) (hj : j < d.length) (e : (d.getD i default).ser = (d.getD j default).ser) : i = j := by
  rcases Nat.lt_trichotomy i j with h1 | h1 | h1
  · have := ser_lt h h1 hj; omega
  · exact h1
  · have := ser_lt h h1 hi; omega
theorem ser_pos {p : List Plt} {d : List Dsc} (h : DsOk p d) {i : Nat} (hi : i < d.length) : 0 ≤ (d.getD i default).ser := by
  have h0 := h 0 (by omega)
  unfold dsOk prevS at h0
  simp only [Bool.and_eq_true, decide_eq_true_eq, if_true] at h0
  rcases Nat.eq_zero_or_pos i with rfl | h1
  · omega
  · have := ser_lt h h1 hi; omega

/-! ### causes -/
/-- from a plate up to another one, with the plate before -/
def climb (p : List Plt) (plate : Int) : Nat → Int → Int → Int × Int
  | 0, s, c => (s, c)
  | f + 1, s, c => if s ≠ plate ∧ 0 ≤ s then climb p plate f (p.getD s.toNat default).par s else (s, c)
theorem climb_stop {p : List Plt} {plate s c : Int} (h : ¬ (s ≠ plate ∧ 0 ≤ s)) : ∀ f, climb p plate f s c = (s, c)
  | 0 => rfl
  | _ + 1 => if_neg h
theorem climb_go {p : List Plt} {plate s c : Int} {f : Nat} (h : s ≠ plate ∧ 0 ≤ s) : climb p plate (f + 1) s c = climb p plate f (p.getD s.toNat default).par s := if_pos h
def under1 (p : List Plt) (plate frm s : Int) : Bool := decide ((climb p plate p.length s p.length).1 = plate) && decide (frm ≤ (climb p plate p.length s p.length).2)
def under (p : List Plt) (d : List Dsc) (side plate frm : Int) : List Bool := (stmS d side).map (under1 p plate frm)
theorem under_len (p : List Plt) (d : List Dsc) (side plate frm : Int) : (under p d side plate frm).length = d.length := by simp [under, stmS]
def fromK (l : List Bool) (k : Nat) : List Bool := List.replicate (min k l.length) false ++ l.drop k
theorem fromK_len (l : List Bool) (k : Nat) : (fromK l k).length = l.length := by simp [fromK]; omega
def alone (n k : Nat) : List Bool := (List.replicate n false).set k true
theorem alone_len (n k : Nat) : (alone n k).length = n := by simp [alone]
/-- a cause, and which discs have it -/
structure Sus where
  plate : Int
  frm : Int
  has : List Bool
  deriving DecidableEq
instance : Inhabited Sus := ⟨⟨0, 0, []⟩⟩
def Sus.cau (x : Sus) : Cau := ⟨x.plate, x.frm⟩
def stamp1 (p : List Plt) (d : List Dsc) (side : Int) (i k : Nat) : List Sus := if (under p d side i 0).getD k default then [⟨i, (d.getD k default).ser, fromK (under p d side i 0) k⟩] else []
def child1 (p : List Plt) (d : List Dsc) (side : Int) (i k : Nat) : List Sus := if i < k ∧ (p.getD k default).par = i then [⟨i, k, under p d side i k⟩] else []
def alone1 (d : List Dsc) (k : Nat) : Sus := ⟨-1, (d.getD k default).ser, alone d.length k⟩
def plate1 (p : List Plt) (d : List Dsc) (side : Int) (i : Nat) : List Sus := if (p.getD i default).kind = 3 then (List.range d.length).flatMap (stamp1 p d side i) else (List.range p.length).flatMap (child1 p d side i)
def causS (p : List Plt) (d : List Dsc) (side : Int) : List Sus := (List.range p.length).flatMap (plate1 p d side) ++ (List.range d.length).map (alone1 d)
end Go.Proofs.Ytfaggcmcfhljpaa
