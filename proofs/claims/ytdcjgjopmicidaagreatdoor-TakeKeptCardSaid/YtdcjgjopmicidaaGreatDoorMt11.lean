/- Texts of this proof, one behind the other: TaO, TcO. -/
import Derived.Test.YtdcjgjopmicidaaGreatDoorMt5
import Derived.Test.YtdcjgjopmicidaaGreatDoorRows
import Derived.Test.YtdcjgjopmicidaaGreatDoorMt10
import Derived.Test.YtdcjgjopmicidaaGreatDoorMt7
/- What comes in to the laws over takes: samples, takes, parts. -/
namespace Go.Proofs.YtdcjgjopmicidaaGreatDoor
open Go.Sx Go.RowKit Go.ChangeShapes Go.WideShapes

theorem own : ownKnob Tryz.prog.godebug = none := by kernel_rfl
theorem laidOut : laidOutB Tryz.prog = true := by kernel_rfl
theorem ce_str : Tryz.prog.cellsOf 9 = 1 := by kernel_rfl
theorem ce_sams : Tryz.prog.cellsOf 37 = 1 := by kernel_rfl
theorem ce_take : Tryz.prog.cellsOf 39 = 2 := by kernel_rfl
section
variable {W : World}
set_option maxRecDepth 100000 in
theorem open_sams {cs : List Value} (h : Dat Tryz.prog W 37 cs) : ∃ A l c, cs = [.slice A (List.length l) c] ∧ RdL W 2 eSam A l ∧ l.length ≤ c ∧ c ≤ maxLen ∧ ∀ x ∈ l, x.wf := by
  obtain ⟨A, l, c, h1, h2, hg, h3, h4⟩ := Dat.slice (enc := eSam) (G := Sam.wf) 2 Tryz.underlying37 (by kernel_rfl) (fun cs h => by
    obtain ⟨zs, hl, hcs, hw⟩ := Dat.intStruct (k := .i64) Tryz.underlying52 (by kernel_rfl) (by kernel_rfl) h
    match zs, hl, hcs, hw with
    | [z0, z1], _, hcs, hw => exact ⟨⟨z0, z1⟩, ⟨I64.of (hw z0 (by simp)), I64.of (hw z1 (by simp))⟩, hcs⟩) eSam_len h
  exact ⟨A, l, c, h1, h2, h3, h4, hg⟩
theorem prt_of {zs : List Int} (hl : zs.length = 7) (hw : ∀ z ∈ zs, (Lit.int .i64 z).wf = true) : ∃ x : Prt, x.wf ∧ zs.map (fun z => Value.int .i64 z) = ePrt x := by
  match zs, hl, hw with
  | [z0, z1, z2, z3, z4, z5, z6], _, hw => exact ⟨⟨z0, z1, z2, z3, z4, z5, z6⟩, ⟨⟨I64.of (hw z0 (by simp)), I64.of (hw z1 (by simp)), I64.of (hw z2 (by simp))⟩, I64.of (hw z3 (by simp)), I64.of (hw z4 (by simp)), I64.of (hw z5 (by simp)), I64.of (hw z6 (by simp))⟩, rfl⟩
set_option maxRecDepth 100000 in
theorem open_prts {cs : List Value} (h : Dat Tryz.prog W 23 cs) : ∃ A l c, cs = [.slice A (List.length l) c] ∧ RdL W 7 ePrt A l ∧ l.length ≤ c ∧ c ≤ maxLen ∧ ∀ x ∈ l, x.wf := by
  obtain ⟨A, l, c, h1, h2, hg, h3, h4⟩ := Dat.slice (enc := ePrt) (G := Prt.wf) 7 Tryz.underlying23 (by kernel_rfl) (fun cs h => by
    obtain ⟨zs, hl, hcs, hw⟩ := Dat.intStruct (k := .i64) Tryz.underlying59 (by kernel_rfl) (by kernel_rfl) h
    obtain ⟨x, hx, he⟩ := prt_of hl hw
    exact ⟨x, hx, hcs.trans he⟩) ePrt_len h
  exact ⟨A, l, c, h1, h2, h3, h4, hg⟩
set_option maxRecDepth 100000 in
theorem open_tk {cs : List Value} (h : Dat Tryz.prog W 39 cs) : ∃ x : Tk, (RdL W 2 eSam x.A x.data ∧ x.wf) ∧ cs = eTk x := by
  obtain ⟨hl, hf⟩ := Dat.struct Tryz.underlying39 h
  rw [ce_take] at hl
  match cs, hl with
  | [a0, a1], _ =>
    have g0 : Dat Tryz.prog W 9 (([a0, a1].drop 0).take (Tryz.prog.cellsOf 9)) := hf 0 _ rfl
    have g1 : Dat Tryz.prog W 37 (([a0, a1].drop 1).take (Tryz.prog.cellsOf 37)) := hf 1 _ rfl
    rw [ce_str] at g0
    rw [ce_sams] at g1
    obtain ⟨s, e0, hs⟩ := Dat.string Tryz.underlying9 g0
    obtain ⟨A, l, c, e1, hr, h1, h2, h3⟩ := open_sams g1
    obtain rfl : a0 = .string s := (List.cons.inj e0).1
    obtain rfl : a1 = .slice A l.length c := (List.cons.inj e1).1
    exact ⟨⟨s, A, c, l⟩, ⟨hr, hs, h1, h3⟩, rfl⟩
set_option maxRecDepth 100000 in
theorem open_takes {cs : List Value} (h : Dat Tryz.prog W 22 cs) : ∃ A l c, cs = [.slice A (List.length l) c] ∧ Tks W A l ∧ l.length ≤ c ∧ c ≤ maxLen := by
  obtain ⟨A, l, c, h1, h2, hg, h3, h4⟩ := Dat.slice (enc := eTk) (G := fun x => RdL W 2 eSam x.A x.data ∧ x.wf) 2 Tryz.underlying22 (by kernel_rfl) (fun cs h => open_tk h) eTk_len h
  exact ⟨A, l, c, h1, ⟨h2, hg⟩, h3, h4⟩
set_option maxRecDepth 100000 in
theorem open_take {base : Nat} {v : Value} (hv : Value.okWide Tryz.prog W .any base 39 v) (h : Dat Tryz.prog W 39 v.cells.toList) : ∃ x : Tk, v = .agg #[.string x.name, .slice x.A x.data.length x.c] ∧ RdL W 2 eSam x.A x.data ∧ x.wf := by
  obtain ⟨cs, rfl, _⟩ := okWide_struct Tryz.underlying39 hv
  obtain ⟨x, ⟨h1, h2⟩, e⟩ := open_tk h
  refine ⟨x, congrArg Value.agg ?_, h1, h2⟩
  obtain ⟨l⟩ := cs
  exact congrArg List.toArray e
set_option maxRecDepth 100000 in
theorem open_part {base : Nat} {v : Value} (hv : Value.okWide Tryz.prog W .any base 59 v) (h : Dat Tryz.prog W 59 v.cells.toList) : ∃ x : Prt, v = .agg #[I x.tk, I x.fr, I x.to, I x.gap, I x.inn, I x.out, I x.lev] ∧ x.wf := by
  obtain ⟨cs, rfl, _⟩ := okWide_struct Tryz.underlying59 hv
  obtain ⟨zs, hl, hcs, hw⟩ := Dat.intStruct (k := .i64) Tryz.underlying59 (by kernel_rfl) (by kernel_rfl) h
  obtain ⟨x, hx, he⟩ := prt_of hl hw
  refine ⟨x, congrArg Value.agg ?_, hx⟩
  obtain ⟨l⟩ := cs
  exact congrArg List.toArray (hcs.trans he)
end
end Go.Proofs.YtdcjgjopmicidaaGreatDoor
/- What comes in to the laws over files: bytes. -/
namespace Go.Proofs.YtdcjgjopmicidaaGreatDoor
open Go.Sx Go.RowKit Go.ChangeShapes Go.WideShapes
section
variable {W : World}
set_option maxRecDepth 100000 in
theorem open_bytes {cs : List Value} (h : Dat Tryz.prog W 33 cs) : ∃ A l c, cs = [.slice A (List.length l) c] ∧ RdL W 1 eU A l ∧ l.length ≤ c ∧ c ≤ maxLen := by
  obtain ⟨A, l, c, h1, h2, _, h3, h4⟩ := Dat.slice (enc := eU) (G := fun _ => True) 1 Tryz.underlying33 (by kernel_rfl) (fun cs h => by
    obtain ⟨n, e, hw⟩ := Dat.int Tryz.underlying5 h
    have hb := u8_of hw
    refine ⟨UInt8.ofNat n.toNat, trivial, ?_⟩
    have : (((UInt8.ofNat n.toNat).toNat : Nat) : Int) = n := by rw [UInt8.toNat_ofNat']; omega
    rw [e, eU, this]) eU_len h
  exact ⟨A, l, c, h1, h2, h3, h4⟩
end
end Go.Proofs.YtdcjgjopmicidaaGreatDoor
