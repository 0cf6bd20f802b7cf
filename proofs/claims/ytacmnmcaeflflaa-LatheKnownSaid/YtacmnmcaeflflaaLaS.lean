/- What the lathe's functions come to, in plain Lean: what both texts share. -/
import Derived.Test.YtacmnmcaeflflaaSx8
namespace Go.Proofs.Ytacmnmcaeflflaa
open Go.Sx

/-- an int64 -/
def I64 (x : Int) : Prop := -9223372036854775808 ≤ x ∧ x ≤ 9223372036854775807
theorem I64.of {x : Int} (h : (Lit.int .i64 x).wf = true) : I64 x := by
  simp [Lit.wf, IntKind.min, IntKind.max, IntKind.signed, IntKind.bits] at h
  unfold I64; omega
theorem u8_of {x : Int} (h : (Lit.int .u8 x).wf = true) : 0 ≤ x ∧ x ≤ 255 := by
  simp [Lit.wf, IntKind.min, IntKind.max, IntKind.signed, IntKind.bits] at h
  omega
theorem u16_of {x : Int} (h : (Lit.int .u16 x).wf = true) : 0 ≤ x ∧ x ≤ 65535 := by
  simp [Lit.wf, IntKind.min, IntKind.max, IntKind.signed, IntKind.bits] at h
  omega

def betw (x lo hi : Int) : Bool := decide (lo ≤ x) && decide (x ≤ hi)
theorem betw_iff {x lo hi : Int} : betw x lo hi = true ↔ lo ≤ x ∧ x ≤ hi := by simp [betw]

structure Blank where
  per : Int
  rim : Int
  core : Int
  land : Int
  slow : Int
  fast : Int
def Blank.cells (b : Blank) : List Value := [I b.per, I b.rim, I b.core, I b.land, I b.slow, I b.fast]
abbrev Blank.val (b : Blank) : Value := .agg b.cells.toArray
def Blank.ok (b : Blank) : Bool := betw b.per 1 65536 && betw b.rim 0 4194304 && betw b.core 0 b.rim && betw b.land 0 65536 && betw b.fast 0 65536 && betw b.slow 0 b.fast
def Blank.check (b : Blank) : Int := if b.ok then 0 else 2
theorem Blank.ok_iff {b : Blank} : b.ok = true ↔ (1 ≤ b.per ∧ b.per ≤ 65536) ∧ (0 ≤ b.rim ∧ b.rim ≤ 4194304) ∧ (0 ≤ b.core ∧ b.core ≤ b.rim) ∧ (0 ≤ b.land ∧ b.land ≤ 65536) ∧ (0 ≤ b.fast ∧ b.fast ≤ 65536) ∧ (0 ≤ b.slow ∧ b.slow ≤ b.fast) := by
  simp [Blank.ok, betw_iff, and_assoc]
theorem Blank.check_ne {b : Blank} : ¬ b.check = 0 ↔ b.ok = false := by
  unfold Blank.check; cases b.ok <;> simp
theorem Blank.check_of {b : Blank} (h : b.ok = false) : b.check = 2 := by simp [Blank.check, h]

structure Pt where
  inn : Int
  out : Int
instance : Inhabited Pt := ⟨⟨0, 0⟩⟩
def ePt (p : Pt) : List Value := [I p.inn, I p.out]
theorem ePt_len (p : Pt) : (ePt p).length = 2 := rfl
def PtWf (p : Pt) : Prop := I64 p.inn ∧ I64 p.out
/-- by how much a point is narrower -/
structure Nar where
  a : Int
  b : Int
instance : Inhabited Nar := ⟨⟨0, 0⟩⟩
def eNar (p : Nar) : List Value := [.int .u8 p.a, .int .u8 p.b]
theorem eNar_len (p : Nar) : (eNar p).length = 2 := rfl
def NarWf (p : Nar) : Prop := (0 ≤ p.a ∧ p.a ≤ 255) ∧ 0 ≤ p.b ∧ p.b ≤ 255
theorem ePt_one : ∀ x, ∀ u ∈ ePt x, u.oneCell' = true := by intro x u hu; simp only [ePt, List.mem_cons, List.not_mem_nil, or_false] at hu; rcases hu with rfl | rfl <;> rfl
def ptOk (p : Pt) : Bool := betw p.inn (-4194304) 4194304 && betw p.out (-4194304) 4194304
def ptsOk (l : List Pt) : Bool := decide (l.length ≤ 4096) && l.all ptOk
def ptsCheck (l : List Pt) : Int := if 4096 < l.length then 6 else if l.all ptOk then 0 else 2

def eI (x : Int) : List Value := [I x]
theorem eI_len (x : Int) : (eI x).length = 1 := rfl

theorem eI_one : ∀ x, ∀ u ∈ eI x, u.oneCell' = true := by intro x u hu; simp only [eI, List.mem_singleton] at hu; subst hu; rfl

/-! the reference's greatest radii -/
def start (b : Blank) (l : List Pt) : List Int := l.map fun p => b.rim - p.out
theorem start_length (b : Blank) (l : List Pt) : (start b l).length = l.length := by simp [start]
theorem start_snoc {b : Blank} {l : List Pt} {k : Nat} (h : k < l.length) : start b (l.take k) ++ [b.rim - (l.getD k default).out] = start b (l.take (k + 1)) := by
  rw [List.take_succ_eq_append_getElem h, start, start, List.map_append]; simp [List.getD, h]
def most1 (b : Blank) (r : List Int) (i : Nat) : Int := if 0 < i then min (r.getD i default) (r.getD (i - 1) default - b.slow) else r.getD i default
def most2 (b : Blank) (l : List Pt) (r : List Int) (i : Nat) : Int :=
  if b.per ≤ i then min (most1 b r i) (r.getD (i - b.per.toNat) default + (l.getD (i - b.per.toNat) default).inn - (l.getD i default).out - b.land) else most1 b r i
def most (b : Blank) (l : List Pt) (r : List Int) (i : Nat) : Int := if i + 1 < l.length then min (most2 b l r i) (r.getD (i + 1) default + b.fast) else most2 b l r i
/-- one sweep, up to sample i -/
def sweepTo (b : Blank) (l : List Pt) : Nat → List Int → List Int × Bool
  | 0, r => (r, false)
  | i + 1, r => let s := sweepTo b l i r; (s.1.set i (most b l s.1 i), s.2 || decide (most b l s.1 i < s.1.getD i default))
def grounds (b : Blank) (l : List Pt) : Nat → List Int → Option (List Int)
  | 0, _ => none
  | f + 1, r => if (sweepTo b l l.length r).2 then grounds b l f (sweepTo b l l.length r).1 else some (sweepTo b l l.length r).1
def greatest (b : Blank) (l : List Pt) : Option (List Int) := grounds b l (l.length + 2) (start b l)
theorem most_le (b : Blank) (l : List Pt) (r : List Int) (i : Nat) : most b l r i ≤ r.getD i default := by
  unfold most most2 most1; split <;> split <;> split <;> omega

def Bd (r : List Int) (n : Nat) (lo : Int) : Prop := ∀ q, q < n → lo ≤ r.getD q default ∧ r.getD q default ≤ 16777216
theorem most1_bd {b : Blank} {r : List Int} {i n : Nat} {lo : Int} (hb : b.ok = true) (h : Bd r n lo) (hi : i < n) : lo - 16777216 ≤ most1 b r i ∧ most1 b r i ≤ 16777216 := by
  rw [Blank.ok_iff] at hb
  have h0 := h i hi
  unfold most1; split
  · have := h (i - 1) (by omega); omega
  · omega
theorem most2_bd {b : Blank} {l : List Pt} {r : List Int} {i n : Nat} {lo : Int} (hb : b.ok = true) (h : Bd r n lo) (hi : i < n) (hp : ∀ q, q < n → (-4194304 ≤ (l.getD q default).inn ∧ (l.getD q default).inn ≤ 4194304) ∧ (-4194304 ≤ (l.getD q default).out ∧ (l.getD q default).out ≤ 4194304)) : lo - 16777216 ≤ most2 b l r i ∧ most2 b l r i ≤ 16777216 := by
  have h1 := most1_bd hb h hi
  rw [Blank.ok_iff] at hb
  unfold most2; split
  · have := h (i - b.per.toNat) (by omega); have := hp (i - b.per.toNat) (by omega); have := hp i hi; omega
  · exact h1
theorem most_bd {b : Blank} {l : List Pt} {r : List Int} {i : Nat} {lo : Int} (hb : b.ok = true) (h : Bd r l.length lo) (hi : i < l.length) (hp : ∀ q, q < l.length → (-4194304 ≤ (l.getD q default).inn ∧ (l.getD q default).inn ≤ 4194304) ∧ (-4194304 ≤ (l.getD q default).out ∧ (l.getD q default).out ≤ 4194304)) : lo - 16777216 ≤ most b l r i ∧ most b l r i ≤ 16777216 := by
  have h1 := most2_bd hb h hi hp
  rw [Blank.ok_iff] at hb
  unfold most; split
  · have := h (i + 1) (by omega); omega
  · exact h1
theorem getD_set_self {r : List Int} {i : Nat} {x : Int} (h : i < r.length) : (r.set i x).getD i default = x := by simp [List.getD, h]
theorem getD_set_ne {r : List Int} {i q : Nat} {x : Int} (h : i ≠ q) : (r.set i x).getD q default = r.getD q default := by simp [List.getD, h]
theorem Bd.set {r : List Int} {n i : Nat} {x lo : Int} (h : Bd r n lo) (hi : i < r.length) (hx : lo - 16777216 ≤ x ∧ x ≤ 16777216) : Bd (r.set i x) n (lo - 16777216) := by
  intro q hq
  by_cases hqi : i = q
  · subst hqi; rw [getD_set_self hi]; exact hx
  · rw [getD_set_ne hqi]; have := h q hq; omega

theorem all_take_succ {α : Type} [Inhabited α] {l : List α} {f : α → Bool} {k : Nat} (hk : k < l.length) : (l.take (k + 1)).all f = ((l.take k).all f && f (l.getD k default)) := by
  rw [List.take_succ_eq_append_getElem hk, List.all_append]
  simp [List.getD, hk]
theorem not_all_of {α : Type} [Inhabited α] {l : List α} {f : α → Bool} {k : Nat} (hk : k < l.length) (h : f (l.getD k default) = false) : l.all f = false := by
  rw [List.all_eq_false]
  exact ⟨l[k], List.getElem_mem hk, by simp [List.getD, hk] at h; simp [h]⟩
end Go.Proofs.Ytacmnmcaeflflaa
