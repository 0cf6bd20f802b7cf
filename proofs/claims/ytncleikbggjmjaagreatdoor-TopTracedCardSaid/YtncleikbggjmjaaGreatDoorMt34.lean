/- Texts of this proof, one behind the other: WcV. -/
import Derived.Test.YtncleikbggjmjaaGreatDoorMt10
import Derived.Test.YtncleikbggjmjaaGreatDoorMtFp1
import Derived.Test.YtncleikbggjmjaaGreatDoorRows
import Derived.Test.YtncleikbggjmjaaGreatDoorMt16
import Derived.LaidMore
import Derived.HandedShaped
import Derived.Lib.LaidTab
import Derived.Stop.LaidErr
import Derived.Stop.Joined
import Derived.Test.YtncleikbggjmjaaGreatDoorMt33
/- What comes in to TopTraced: a recipe, acts, pairs. -/
namespace Go.Proofs.YtncleikbggjmjaaGreatDoor.traced
open Go.Sx Go.Proofs Go.RowKit Go.WideShapes Go.Lib
open Plg (eAct eRc rV ePr eAct_len ePr_len)
theorem own : ownKnob Tryz.prog.godebug = none := by kernel_rfl
theorem laidOut : laidOutB Tryz.prog = true := facts_laid
theorem u8_of {x : Int} (h : (Lit.int .u8 x).wf = true) : 0 ≤ x ∧ x ≤ 255 := Take.u8_of h
section
variable {W : World}
theorem one_i {t : TypeId} {cs ds : List Value} {q : Nat} (ht : Tryz.prog.underlying t = some (.int .i64)) (hc : Tryz.prog.cellsOf t = 1) (h : Dat Tryz.prog W t ((cs.drop q).take (Tryz.prog.cellsOf t))) (hd : (cs.drop q).take 1 = ds) : ∃ z : Int, ds = [I z] ∧ True := by
  rw [hc, hd] at h
  obtain ⟨z, e, _⟩ := Dat.int ht h
  exact ⟨z, e, trivial⟩
theorem arr_i {t : TypeId} {n q : Nat} {cs ds : List Value} (ht : Tryz.prog.underlying t = some (.array n 2)) (hc : Tryz.prog.cellsOf t = n) (h : Dat Tryz.prog W t ((cs.drop q).take (Tryz.prog.cellsOf t))) (hd : (cs.drop q).take n = ds) : ∃ zs : List Int, zs.length = n ∧ ds = zs.map I := by
  rw [hc, hd] at h
  obtain ⟨zs, hl, hcs, _⟩ := Dat.intArray (k := .i64) ht Tryz.underlying2 (by kernel_rfl) hc h
  exact ⟨zs, hl, hcs⟩
theorem list2 {l : List Int} (h : l.length = 2) : ∃ a b, l = [a, b] := by
  match l, h with
  | [a, b], _ => exact ⟨a, b, rfl⟩
theorem list4 {l : List Int} (h : l.length = 4) : ∃ a b c d, l = [a, b, c, d] := by
  match l, h with
  | [a, b, c, d], _ => exact ⟨a, b, c, d, rfl⟩
set_option maxRecDepth 100000 in
theorem open_actD {cs : List Value} (h : Dat Tryz.prog W 70 cs) : ∃ a : Nat → Int, True ∧ cs = eAct a := by
  obtain ⟨hl, hf⟩ := Dat.struct Tryz.underlying70 h
  rw [show Tryz.prog.cellsOf 70 = 13 by kernel_rfl] at hl
  match cs, hl with
  | [a0, a1, a2, a3, a4, a5, a6, a7, a8, a9, a10, a11, a12], _ =>
    obtain ⟨z0, e0, _⟩ := one_i (t := 3) Tryz.underlying3 (by kernel_rfl) (q := 0) (hf 0 _ rfl) rfl
    obtain rfl : a0 = I z0 := (List.cons.inj e0).1
    obtain ⟨z1, e1, _⟩ := one_i (t := 2) Tryz.underlying2 (by kernel_rfl) (q := 1) (hf 1 _ rfl) rfl
    obtain rfl : a1 = I z1 := (List.cons.inj e1).1
    obtain ⟨z2, e2, _⟩ := one_i (t := 2) Tryz.underlying2 (by kernel_rfl) (q := 2) (hf 2 _ rfl) rfl
    obtain rfl : a2 = I z2 := (List.cons.inj e2).1
    obtain ⟨z3, e3, _⟩ := one_i (t := 2) Tryz.underlying2 (by kernel_rfl) (q := 3) (hf 3 _ rfl) rfl
    obtain rfl : a3 = I z3 := (List.cons.inj e3).1
    obtain ⟨z4, e4, _⟩ := one_i (t := 2) Tryz.underlying2 (by kernel_rfl) (q := 4) (hf 4 _ rfl) rfl
    obtain rfl : a4 = I z4 := (List.cons.inj e4).1
    obtain ⟨z5, e5, _⟩ := one_i (t := 3) Tryz.underlying3 (by kernel_rfl) (q := 5) (hf 5 _ rfl) rfl
    obtain rfl : a5 = I z5 := (List.cons.inj e5).1
    obtain ⟨z6, e6, _⟩ := one_i (t := 3) Tryz.underlying3 (by kernel_rfl) (q := 6) (hf 6 _ rfl) rfl
    obtain rfl : a6 = I z6 := (List.cons.inj e6).1
    obtain ⟨zs7, l7, e7⟩ := arr_i (t := 68) (n := 2) Tryz.underlying68 (by kernel_rfl) (q := 7) (ds := [a7, a8]) (hf 7 _ rfl) rfl
    obtain ⟨z7, z8, rfl⟩ := list2 l7
    obtain ⟨rfl, rfl⟩ : a7 = I z7 ∧ a8 = I z8 := by simpa using e7
    obtain ⟨z9, e9, _⟩ := one_i (t := 2) Tryz.underlying2 (by kernel_rfl) (q := 9) (hf 8 _ rfl) rfl
    obtain rfl : a9 = I z9 := (List.cons.inj e9).1
    obtain ⟨z10, e10, _⟩ := one_i (t := 2) Tryz.underlying2 (by kernel_rfl) (q := 10) (hf 9 _ rfl) rfl
    obtain rfl : a10 = I z10 := (List.cons.inj e10).1
    obtain ⟨z11, e11, _⟩ := one_i (t := 3) Tryz.underlying3 (by kernel_rfl) (q := 11) (hf 10 _ rfl) rfl
    obtain rfl : a11 = I z11 := (List.cons.inj e11).1
    obtain ⟨z12, e12, _⟩ := one_i (t := 3) Tryz.underlying3 (by kernel_rfl) (q := 12) (hf 11 _ rfl) rfl
    obtain rfl : a12 = I z12 := (List.cons.inj e12).1
    exact ⟨fun i => [z0, z1, z2, z3, z4, z5, z6, z7, z8, z9, z10, z11, z12].getD i 0, trivial, rfl⟩
set_option maxRecDepth 100000 in
theorem open_recD {cs : List Value} (h : Dat Tryz.prog W 24 cs) : ∃ a : Nat → Int, True ∧ cs = eRc a := by
  obtain ⟨hl, hf⟩ := Dat.struct Tryz.underlying24 h
  rw [show Tryz.prog.cellsOf 24 = 13 by kernel_rfl] at hl
  match cs, hl with
  | [a0, a1, a2, a3, a4, a5, a6, a7, a8, a9, a10, a11, a12], _ =>
    obtain ⟨zs0, l0, e0⟩ := arr_i (t := 22) (n := 4) Tryz.underlying22 (by kernel_rfl) (q := 0) (ds := [a0, a1, a2, a3]) (hf 0 _ rfl) rfl
    obtain ⟨z0, z1, z2, z3, rfl⟩ := list4 l0
    obtain ⟨rfl, rfl, rfl, rfl⟩ : a0 = I z0 ∧ a1 = I z1 ∧ a2 = I z2 ∧ a3 = I z3 := by simpa using e0
    obtain ⟨zs4, l4, e4⟩ := arr_i (t := 22) (n := 4) Tryz.underlying22 (by kernel_rfl) (q := 4) (ds := [a4, a5, a6, a7]) (hf 1 _ rfl) rfl
    obtain ⟨z4, z5, z6, z7, rfl⟩ := list4 l4
    obtain ⟨rfl, rfl, rfl, rfl⟩ : a4 = I z4 ∧ a5 = I z5 ∧ a6 = I z6 ∧ a7 = I z7 := by simpa using e4
    obtain ⟨z8, e8, _⟩ := one_i (t := 2) Tryz.underlying2 (by kernel_rfl) (q := 8) (hf 2 _ rfl) rfl
    obtain rfl : a8 = I z8 := (List.cons.inj e8).1
    obtain ⟨z9, e9, _⟩ := one_i (t := 2) Tryz.underlying2 (by kernel_rfl) (q := 9) (hf 3 _ rfl) rfl
    obtain rfl : a9 = I z9 := (List.cons.inj e9).1
    obtain ⟨z10, e10, _⟩ := one_i (t := 2) Tryz.underlying2 (by kernel_rfl) (q := 10) (hf 4 _ rfl) rfl
    obtain rfl : a10 = I z10 := (List.cons.inj e10).1
    obtain ⟨z11, e11, _⟩ := one_i (t := 3) Tryz.underlying3 (by kernel_rfl) (q := 11) (hf 5 _ rfl) rfl
    obtain rfl : a11 = I z11 := (List.cons.inj e11).1
    obtain ⟨z12, e12, _⟩ := one_i (t := 3) Tryz.underlying3 (by kernel_rfl) (q := 12) (hf 6 _ rfl) rfl
    obtain rfl : a12 = I z12 := (List.cons.inj e12).1
    exact ⟨fun i => [z0, z1, z2, z3, z4, z5, z6, z7, z8, z9, z10, z11, z12].getD i 0, trivial, rfl⟩
set_option maxRecDepth 100000 in
theorem open_acts {cs : List Value} (h : Dat Tryz.prog W 25 cs) : ∃ A l c, cs = [.slice A (List.length l) c] ∧ RdL W 13 eAct A l ∧ l.length ≤ c ∧ c ≤ maxLen := by
  obtain ⟨A, l, c, h1, h2, _, h3, h4⟩ := Dat.slice (enc := eAct) (G := fun _ => True) 13 Tryz.underlying25 (by kernel_rfl) (fun cs h => open_actD h) eAct_len h
  exact ⟨A, l, c, h1, h2, h3, h4⟩
set_option maxRecDepth 100000 in
theorem open_pairs {cs : List Value} (h : Dat Tryz.prog W 26 cs) : ∃ A l c, cs = [.slice A (List.length l) c] ∧ RdL W 2 ePr A l ∧ l.length ≤ c ∧ c ≤ maxLen ∧ ∀ x ∈ l, (0 ≤ x.1 ∧ x.1 ≤ 255) ∧ (0 ≤ x.2 ∧ x.2 ≤ 255) := by
  obtain ⟨A, l, c, h1, h2, hg, h3, h4⟩ := Dat.slice (enc := ePr) (G := fun x : Int × Int => (0 ≤ x.1 ∧ x.1 ≤ 255) ∧ (0 ≤ x.2 ∧ x.2 ≤ 255)) 2 Tryz.underlying26 (by kernel_rfl) (fun cs h => by
    obtain ⟨zs, hl, hcs, hw⟩ := Dat.intArray (k := .u8) Tryz.underlying82 Tryz.underlying5 (by kernel_rfl) (by kernel_rfl) h
    match zs, hl, hcs, hw with
    | [z0, z1], _, hcs, hw => exact ⟨(z0, z1), ⟨u8_of (hw z0 (by simp)), u8_of (hw z1 (by simp))⟩, hcs⟩) ePr_len h
  exact ⟨A, l, c, h1, h2, h3, h4, hg⟩
set_option maxRecDepth 100000 in
theorem open_rec {base : Nat} {v : Value} (hv : Value.okWide Tryz.prog W .any base 24 v) (h : Dat Tryz.prog W 24 v.cells.toList) : ∃ R : Nat → Int, v = rV R ∧ True := by
  obtain ⟨cs, rfl, _⟩ := okWide_struct Tryz.underlying24 hv
  obtain ⟨R, _, e⟩ := open_recD h
  refine ⟨R, congrArg Value.agg ?_, trivial⟩
  obtain ⟨l⟩ := cs
  exact congrArg List.toArray e
end
def Env (_ : World) : Prop := True
theorem env_of {W : World} (_ : laidMetH Tryz.prog Rows.topTracedRow.laid W) (_ : W.ShapedOpen Tryz.prog) : Env W := trivial
theorem L_TopTraced {w : World} {R : Nat → Int} {A A2 : Option Addr} {c c2 : Nat} {l : List (Nat → Int)} {pr : List (Int × Int)} {x3 : Bool} {x4 : Int} (_ : Env w) (_ : True) (hl : RdL w 13 eAct A l) (_ : l.length ≤ c ∧ c ≤ maxLen) (hp : RdL w 2 ePr A2 pr) (hb : pr.length ≤ c2 ∧ c2 ≤ maxLen ∧ ∀ x ∈ pr, (0 ≤ x.1 ∧ x.1 ≤ 255) ∧ (0 ≤ x.2 ∧ x.2 ≤ 255)) (h4 : 0 ≤ x4 ∧ x4 ≤ 255) :
    Con0 Tryz.prog 3 [rV R, .slice A l.length c, .slice A2 pr.length c2, .bool x3, .int .u8 x4] w (.bool true) := Plg.C_TopTraced hl hp hb.2.2 h4
end Go.Proofs.YtncleikbggjmjaaGreatDoor.traced
