/- Texts of this proof, one behind the other: TdV. -/
import Derived.Test.YtdcjgjopmicidaaGreatDoorMt18
import Derived.Test.YtdcjgjopmicidaaGreatDoorRows
import Derived.ProofKit
import Derived.LaidMore
import Derived.HandedShaped
import Derived.Stop.LaidErr
import Derived.Stop.Joined
import Derived.Shelf.Vars
/- From the row's premise (the listed variables, the world's shape) to what the walks ask of the world. -/
namespace Go.Proofs.YtdcjgjopmicidaaGreatDoor
open Go.Sx Go.RowKit Go.WideShapes

theorem err_cell {P : Program} {W : World} {name nm : String} {d : DataW Unit} {r : List (String × DataW Unit)} {g t : Nat} {ms : Array (String × TypeId)} (hg : P.globalNamed name = some g) (hty : (P.globals[g]?).map (·.type) = some t)
    (hi : P.underlying t = some (.interface ms)) (h : laidMet P ((name, .iface nm d) :: r) W) : ∃ ev, W.cell? ⟨g, 0, none⟩ = some ev ∧ (ev = .nilIface ∨ ∃ te pe, ev = .iface te pe) := by
  obtain ⟨ps, ⟨g', t', cs, fuel, p, q, hg', ht', hvar, hd, _, _⟩, _⟩ := h
  obtain rfl := Option.some.inj (hg.symm.trans hg')
  obtain rfl := Option.some.inj (hty.symm.trans ht')
  obtain ⟨_, u, v, hcs, _, _⟩ := iface_of_trod hi hd
  have h1 := World.var?_cell hg hvar 0
  have e : cs[0]? = some (.iface u v) := by rw [← Array.getElem?_toList, hcs]; rfl
  exact ⟨.iface u v, h1.trans e, .inr ⟨u, v, rfl⟩⟩
set_option maxRecDepth 100000 in
theorem env_of {W : World} (hL : laidMetH Tryz.prog Rows.takeTextsRow.laid W) (hS : W.ShapedOpen Tryz.prog) : Env W := by
  rw [MakeChecks.laidMetH_plain _ _ _ (by kernel_rfl)] at hL
  have h0 : laidMet Tryz.prog [("math/bits.deBruijn32tab", Rows.laid_math_bits_deBruijn32tab), ("math/bits.deBruijn64tab", Rows.laid_math_bits_deBruijn64tab), ("internal/strconv.uint64pow10", Rows.laid_internal_strconv_uint64pow10), ("unicode/utf8.acceptRanges", Rows.laid_unicode_utf8_acceptRanges), ("strconv.ErrRange", Rows.laid_strconv_ErrRange), ("strconv.ErrSyntax", Rows.laid_strconv_ErrSyntax), ("unicode/utf8.first", Rows.laid_unicode_utf8_first)] W := hL
  have h2 := h0.tail.tail
  have h4 := h2.tail.tail
  have h5 := h4.tail
  exact ⟨Go.Lib.tabIs_of_head (g := 0) (t := 150) (e := 129) (n := 20) (by kernel_rfl) (by kernel_rfl) Tryz.underlying150 Tryz.underlying129 (by kernel_rfl) (by kernel_rfl) (show laidMet Tryz.prog (("internal/strconv.uint64pow10", Go.Lib.tabData .u64 Go.Lib.pow10Tab) :: _) W from h2),
    Go.Proofs.cell_of_shapedOpen_int (zero := #[.int .i64 0]) (t := 3) hS (of_decide_eq_true (by kernel_rfl)) (by kernel_rfl) rfl (by kernel_rfl) (by kernel_rfl) Tryz.underlying3,
    err_cell (g := 1) (t := 61) (by kernel_rfl) (by kernel_rfl) Tryz.underlying61 h5,
    err_cell (g := 2) (t := 61) (by kernel_rfl) (by kernel_rfl) Tryz.underlying61 h4⟩
set_option maxRecDepth 100000 in
theorem open_str {W : World} {base : Nat} {v : Value} (hv : Value.okWide Tryz.prog W .any base 9 v) : ∃ s : List UInt8, v = .string (stz s) := by
  obtain ⟨b, rfl⟩ := okWide_string Tryz.underlying9 hv
  exact ⟨byz b, congrArg Value.string (stz_byz b).symm⟩
end Go.Proofs.YtdcjgjopmicidaaGreatDoor
