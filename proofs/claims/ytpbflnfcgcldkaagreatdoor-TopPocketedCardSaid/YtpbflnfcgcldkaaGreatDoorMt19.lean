/- Texts of this proof, one behind the other: UfO, UfV. -/
import Derived.Test.YtpbflnfcgcldkaaGreatDoorMt10
import Derived.Test.YtpbflnfcgcldkaaGreatDoorRows
import Derived.Test.YtpbflnfcgcldkaaGreatDoorMt18
import Derived.LaidMore
import Derived.HandedShaped
import Derived.Lib.LaidTab
import Derived.Stop.LaidErr
import Derived.Stop.Joined
/- What comes in to TopPocketed: formats, pairs, the table of folds. -/
namespace Go.Proofs.YtpbflnfcgcldkaaGreatDoor
open Go.Sx Go.RowKit Go.WideShapes Go.Lib
theorem own : ownKnob Tryz.prog.godebug = none := by kernel_rfl
theorem laidOut : laidOutB Tryz.prog = true := by kernel_rfl
theorem u8_of {x : Int} (h : (Lit.int .u8 x).wf = true) : 0 ≤ x ∧ x ≤ 255 := Take.u8_of h
theorem u16_of {x : Int} (h : (Lit.int .u16 x).wf = true) : 0 ≤ x ∧ x ≤ 65535 := Take.u16_of h
theorem ce_i64 : Tryz.prog.cellsOf 2 = 1 := by kernel_rfl
theorem ce_str : Tryz.prog.cellsOf 9 = 1 := by kernel_rfl
theorem ce_fmt : Tryz.prog.cellsOf 77 = 8 := by kernel_rfl
section
variable {W : World}
theorem one_i64 {cs ds : List Value} {q : Nat} (h : Dat Tryz.prog W 2 ((cs.drop q).take (Tryz.prog.cellsOf 2))) (hd : (cs.drop q).take 1 = ds) : ∃ z : Int, ds = [I z] ∧ (Lit.int .i64 z).wf = true := by
  rw [ce_i64, hd] at h
  obtain ⟨z, e, hw⟩ := Dat.int Tryz.underlying2 h
  exact ⟨z, e, hw⟩
set_option maxRecDepth 100000 in
theorem open_fmtD {cs : List Value} (h : Dat Tryz.prog W 77 cs) : ∃ f : Side.Fmt, cs = f.cells ∧ f.nm.size ≤ maxLen := by
  obtain ⟨hl, hf⟩ := Dat.struct Tryz.underlying77 h
  rw [ce_fmt] at hl
  match cs, hl with
  | [a0, a1, a2, a3, a4, a5, a6, a7], _ =>
    have g0 : Dat Tryz.prog W 9 (([a0, a1, a2, a3, a4, a5, a6, a7].drop 0).take (Tryz.prog.cellsOf 9)) := hf 0 _ rfl
    rw [ce_str] at g0
    obtain ⟨s, e0, hs⟩ := Dat.string Tryz.underlying9 g0
    obtain rfl : a0 = .string s := (List.cons.inj e0).1
    obtain ⟨z1, e1, _⟩ := one_i64 (q := 1) (hf 1 _ rfl) rfl
    obtain ⟨z2, e2, _⟩ := one_i64 (q := 2) (hf 2 _ rfl) rfl
    obtain ⟨z3, e3, _⟩ := one_i64 (q := 3) (hf 3 _ rfl) rfl
    obtain ⟨z4, e4, _⟩ := one_i64 (q := 4) (hf 4 _ rfl) rfl
    obtain ⟨z5, e5, _⟩ := one_i64 (q := 5) (hf 5 _ rfl) rfl
    obtain ⟨z6, e6, _⟩ := one_i64 (q := 6) (hf 6 _ rfl) rfl
    obtain ⟨z7, e7, _⟩ := one_i64 (q := 7) (hf 7 _ rfl) rfl
    obtain rfl : a1 = I z1 := (List.cons.inj e1).1
    obtain rfl : a2 = I z2 := (List.cons.inj e2).1
    obtain rfl : a3 = I z3 := (List.cons.inj e3).1
    obtain rfl : a4 = I z4 := (List.cons.inj e4).1
    obtain rfl : a5 = I z5 := (List.cons.inj e5).1
    obtain rfl : a6 = I z6 := (List.cons.inj e6).1
    obtain rfl : a7 = I z7 := (List.cons.inj e7).1
    exact ⟨⟨s, z1, z2, z3, z4, z5, z6, z7⟩, rfl, hs⟩
set_option maxRecDepth 100000 in
theorem open_fmt {base : Nat} {v : Value} (hv : Value.okWide Tryz.prog W .any base 77 v) (h : Dat Tryz.prog W 77 v.cells.toList) : ∃ f : Side.Fmt, v = f.val := by
  obtain ⟨cs, rfl, _⟩ := okWide_struct Tryz.underlying77 hv
  obtain ⟨f, e, _⟩ := open_fmtD h
  refine ⟨f, congrArg Value.agg ?_⟩
  obtain ⟨l⟩ := cs
  exact congrArg List.toArray e
theorem okWide_array {P : Program} {w : World} {r : Reach} {base : Nat} {t e : TypeId} {n : Nat} {v : Value} (ht : P.underlying t = some (.array n e)) (h : Value.okWide P w r base t v) : ∃ cs, v = .agg cs := by
  simp only [Value.okWide, ht] at h
  obtain ⟨cs, h1, _⟩ := h
  exact ⟨cs, h1⟩
set_option maxRecDepth 100000 in
theorem open_pair {base : Nat} {v : Value} (hv : Value.okWide Tryz.prog W .any base 79 v) (h : Dat Tryz.prog W 79 v.cells.toList) : ∃ z0 z1 : Int, v = .agg #[.int .u16 z0, .int .u16 z1] ∧ (0 ≤ z0 ∧ z0 ≤ 65535) ∧ (0 ≤ z1 ∧ z1 ≤ 65535) := by
  obtain ⟨cs, rfl⟩ := okWide_array Tryz.underlying79 hv
  obtain ⟨zs, hl, hcs, hw⟩ := Dat.intArray (k := .u16) Tryz.underlying79 Tryz.underlying78 (by kernel_rfl) (by kernel_rfl) h
  match zs, hl, hcs, hw with
  | [z0, z1], _, hcs, hw =>
    refine ⟨z0, z1, congrArg Value.agg ?_, u16_of (hw z0 (by simp)), u16_of (hw z1 (by simp))⟩
    obtain ⟨l⟩ := cs
    exact congrArg List.toArray hcs
end
/-! ### the table of folds -/
theorem cells_of_tab2 {H : Type} {enc : TypeId × Value → H} {P : Program} {w : World} {base : Nat} {sp : Nat → Bool} {held : Bool} {fuel : Nat} {t e i : TypeId} {n m : Nat} {k : IntKind} {cs : List Value} {zss : List (List Int)} {p : List MemPlace}
    (ht : P.underlying t = some (.array n e)) (he : P.underlying e = some (.array m i)) (hi : P.underlying i = some (.int k)) (hci : P.cellsOf i = 1) (hce : P.cellsOf e = m) (hct : P.cellsOf t = n * m)
    (h : DataW.trod enc P w base sp held fuel t cs = some (.agg (zss.map (tabData k)), p)) : cs.length = n * m ∧ ∀ j, j < n → (cs.drop (j * m)).take m = (zss.getD j []).map fun z => Value.int k z := by
  cases fuel with
  | zero => simp [DataW.trod] at h
  | succ fuel =>
    simp only [DataW.trod, ht, hce, hct] at h
    split at h
    · rename_i hl
      obtain ⟨xs, hm, hx⟩ := Option.map_eq_some_iff.1 h
      have hxs : xs.map (·.1) = zss.map (tabData (H := H) k) := by simpa using congrArg Prod.fst hx
      refine ⟨hl, fun j hj => ?_⟩
      obtain ⟨b, hb, hf⟩ := mapM_at hm j j (by simp [hj])
      have h2 : (xs.map (·.1))[j]? = some b.1 := by simp [hb]
      rw [hxs, List.getElem?_map] at h2
      cases hz : zss[j]? with
      | none => rw [hz] at h2; cases h2
      | some zs =>
        rw [hz] at h2
        have hb1 : b = (tabData k zs, b.2) := by
          have := Option.some.inj h2
          exact Prod.ext this.symm rfl
        rw [hb1] at hf
        have := cells_of_tab he hi hci hce hf
        rw [this]; simp [List.getD, hz]
    · cases h
set_option maxRecDepth 100000 in
theorem grows_of {W : World} {r : List (String × DataW Unit)} (h : laidMet Tryz.prog (("deadwax/sleeve.grows", Rows.laid_deadwax_sleeve_grows) :: r) W) : Slv.GrowsAt W := by
  obtain ⟨ps, ⟨g', t', cs, fuel, p, q, hg', ht', hvar, hd, _, _⟩, _⟩ := h
  obtain rfl := Option.some.inj ((show Tryz.prog.globalNamed "deadwax/sleeve.grows" = some 1 by kernel_rfl).symm.trans hg')
  obtain rfl := Option.some.inj ((show (Tryz.prog.globals[1]?).map (·.type) = some 328 by kernel_rfl).symm.trans ht')
  obtain ⟨hl, hc⟩ := cells_of_tab2 (zss := [[0, 0], [1, 2], [2, 1]]) Tryz.underlying328 Tryz.underlying327 Tryz.underlying3 (by kernel_rfl) (by kernel_rfl) (by kernel_rfl) hd
  have h0 := hc 0 (by decide)
  have h1 := hc 1 (by decide)
  have h2 := hc 2 (by decide)
  intro j v hv
  have hcell := World.var?_cell hg' hvar j
  rw [hcell, ← Array.getElem?_toList]
  generalize cs.toList = l at *
  match l, hl with
  | [c0, c1, c2, c3, c4, c5], _ =>
    simp only [Nat.zero_mul, Nat.one_mul, List.drop_zero, List.take_succ_cons, List.take_zero, List.getD, List.getElem?_cons_zero, Option.getD_some, List.map_cons, List.map_nil, List.cons.injEq, and_true] at h0
    simp at h1 h2
    obtain ⟨rfl, rfl⟩ := h0
    obtain ⟨rfl, rfl⟩ := h1
    obtain ⟨rfl, rfl⟩ := h2
    exact hv
end Go.Proofs.YtpbflnfcgcldkaaGreatDoor
/- From the premise of the row TopPocketed to what the walk asks of the world. -/
namespace Go.Proofs.YtpbflnfcgcldkaaGreatDoor
open Go.Sx Go.RowKit Go.WideShapes
def Env (W : World) : Prop := Slv.GrowsAt W
set_option maxRecDepth 100000 in
theorem env_of {W : World} (hL : laidMetH Tryz.prog Rows.topPocketedRow.laid W) (_hS : W.ShapedOpen Tryz.prog) : Env W := by
  rw [MakeChecks.laidMetH_plain _ _ _ (by kernel_rfl)] at hL
  have h0 : laidMet Tryz.prog [("unicode/utf8.acceptRanges", Rows.laid_unicode_utf8_acceptRanges), ("deadwax/sleeve.grows", Rows.laid_deadwax_sleeve_grows), ("unicode/utf8.first", Rows.laid_unicode_utf8_first)] W := hL
  exact grows_of h0.tail
theorem L_TopPocketed {w : World} {f : Side.Fmt} {x1 x2 x3 x4 x5 y5 : Int} (hE : Env w) (h1 : 0 ≤ x1 ∧ x1 ≤ 255) (h2 : 0 ≤ x2 ∧ x2 ≤ 255) (h3 : 0 ≤ x3 ∧ x3 ≤ 255) (h4 : 0 ≤ x4 ∧ x4 ≤ 65535) (h5 : 0 ≤ x5 ∧ x5 ≤ 65535) (h6 : 0 ≤ y5 ∧ y5 ≤ 65535) :
    Con0 Tryz.prog 5 [f.val, .int .u8 x1, .int .u8 x2, .int .u8 x3, .int .u16 x4, .agg #[.int .u16 x5, .int .u16 y5]] w (.bool true) := Net.C_TopPocketed hE h1 h2 h3 h4 h5 h6
end Go.Proofs.YtpbflnfcgcldkaaGreatDoor
