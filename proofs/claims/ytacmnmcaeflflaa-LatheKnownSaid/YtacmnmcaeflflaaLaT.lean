/- The lathe's own search, in plain Lean: its edges, its rounds. -/
import Derived.Test.YtacmnmcaeflflaaLaS
namespace Go.Proofs.Ytacmnmcaeflflaa
open Go.Sx

structure Stp where
  rule : Int
  samp : Int
instance : Inhabited Stp := ⟨⟨0, 0⟩⟩
def eStp (s : Stp) : List Value := [I s.rule, I s.samp]
theorem eStp_len (s : Stp) : (eStp s).length = 2 := rfl
theorem eStp_one : ∀ x, ∀ u ∈ eStp x, u.oneCell' = true := by intro x u hu; simp only [eStp, List.mem_cons, List.not_mem_nil, or_false] at hu; rcases hu with rfl | rfl <;> rfl

def StpWf (s : Stp) : Prop := I64 s.rule ∧ I64 s.samp

structure Edge where
  rule : Int
  samp : Int
  frm : Int
  to : Int
  wt : Int
instance : Inhabited Edge := ⟨⟨0, 0, 0, 0, 0⟩⟩
def eEdge (x : Edge) : List Value := [I x.rule, I x.samp, I x.frm, I x.to, I x.wt]
theorem eEdge_len (s : Edge) : (eEdge s).length = 5 := rfl
theorem eEdge_one : ∀ x, ∀ u ∈ eEdge x, u.oneCell' = true := by intro x u hu; simp only [eEdge, List.mem_cons, List.not_mem_nil, or_false] at hu; rcases hu with rfl | rfl | rfl | rfl | rfl <;> rfl
def Edge.stp (x : Edge) : Stp := ⟨x.rule, x.samp⟩

/-- what a rule says at a sample -/
def edgeOf (b : Blank) (l : List Pt) (rule samp : Int) : Edge × Bool :=
  if samp < 0 ∨ (l.length : Int) ≤ samp then (⟨rule, samp, samp, samp, 0⟩, false)
  else if rule = 1 then (⟨rule, samp, -1, samp, b.rim - (l.getD samp.toNat default).out⟩, true)
  else if rule = 2 then (⟨rule, samp, samp, -1, (l.getD samp.toNat default).inn - b.core⟩, true)
  else if rule = 3 then (⟨rule, samp, samp - 1, samp, 0 - b.slow⟩, decide (0 < samp))
  else if rule = 4 then (⟨rule, samp, samp, samp - 1, b.fast⟩, decide (0 < samp))
  else if rule = 5 then
    if samp < b.per then (⟨rule, samp, samp, samp, 0⟩, false)
    else (⟨rule, samp, samp - b.per, samp, (l.getD (samp - b.per).toNat default).inn - (l.getD samp.toNat default).out - b.land⟩, true)
  else (⟨rule, samp, samp, samp, 0⟩, false)

def optE (x : Edge × Bool) : List Edge := if x.2 then [x.1] else []
/-- the edges, in the order in which they are yielded -/
def inward (b : Blank) (l : List Pt) (i : Nat) : List Edge := optE (edgeOf b l 3 i) ++ optE (edgeOf b l 5 i)
def edgeList (b : Blank) (l : List Pt) : List Edge := (List.range l.length).flatMap (inward b l) ++ (List.range (l.length - 1)).reverse.flatMap fun i : Nat => optE (edgeOf b l 4 ((i : Int) + 1))

structure Srch where
  r : List Int
  last : List Edge
  ch : Int
def relax (s : Srch) (x : Edge) : Srch :=
  if s.r.getD x.to.toNat default ≤ s.r.getD x.frm.toNat default + x.wt then s
  else ⟨s.r.set x.to.toNat (s.r.getD x.frm.toNat default + x.wt), s.last.set x.to.toNat x, x.to⟩
def round (b : Blank) (l : List Pt) (r : List Int) (last : List Edge) : Srch := (edgeList b l).foldl relax ⟨r, last, -1⟩
/-- so many rounds, till nothing changes -/
def rounds (b : Blank) (l : List Pt) : Nat → List Int → List Edge → Srch
  | 0, r, last => ⟨r, last, -1⟩
  | f + 1, r, last => let s := round b l r last; if s.ch = -1 then s else if f = 0 then s else rounds b l f s.r s.last
def rimEdges (b : Blank) (l : List Pt) : List Edge := (List.range l.length).map fun i : Nat => (edgeOf b l 1 i).1
def settled (b : Blank) (l : List Pt) : Srch := rounds b l (l.length + 2) (start b l) (rimEdges b l)

/-- the step back along the last edges -/
def par (last : List Edge) (v : Int) : Int := (last.getD v.toNat default).frm
def back (last : List Edge) : Nat → Int → Int
  | 0, v => v
  | k + 1, v => par last (back last k v)
end Go.Proofs.Ytacmnmcaeflflaa
