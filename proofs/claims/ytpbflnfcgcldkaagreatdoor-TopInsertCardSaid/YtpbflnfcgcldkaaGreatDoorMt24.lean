/- Texts of this proof, one behind the other: UgV. -/
import Derived.Test.YtpbflnfcgcldkaaGreatDoorMtFp1
import Derived.Test.YtpbflnfcgcldkaaGreatDoorMt19
import Derived.Test.YtpbflnfcgcldkaaGreatDoorMt23
import Derived.ProofKit
import Derived.Shelf.Vars
/- What comes in to TopInsert; from the premise of its row to what the walk asks of the world. -/
namespace Go.Proofs.YtpbflnfcgcldkaaGreatDoor
open Go.Sx Go.RowKit Go.WideShapes
theorem err_cell {P : Program} {W : World} {name nm : String} {d : DataW Unit} {r : List (String × DataW Unit)} {g t : Nat} {ms : Array (String × TypeId)} (hg : P.globalNamed name = some g) (hty : (P.globals[g]?).map (·.type) = some t)
    (hi : P.underlying t = some (.interface ms)) (h : laidMet P ((name, .iface nm d) :: r) W) : ∃ ev, W.cell? ⟨g, 0, none⟩ = some ev ∧ (ev = .nilIface ∨ ∃ te pe, ev = .iface te pe) := by
  obtain ⟨ps, ⟨g', t', cs, fuel, p, q, hg', ht', hvar, hd, _, _⟩, _⟩ := h
  obtain rfl := Option.some.inj (hg.symm.trans hg')
  obtain rfl := Option.some.inj (hty.symm.trans ht')
  obtain ⟨_, u, v, hcs, _, _⟩ := iface_of_trod hi hd
  have h1 := World.var?_cell hg hvar 0
  have e : cs[0]? = some (.iface u v) := by rw [← Array.getElem?_toList, hcs]; rfl
  exact ⟨.iface u v, h1.trans e, .inr ⟨u, v, rfl⟩⟩
def Env (W : World) : Prop := Take.Env W ∧ Slv.GrowsAt W
set_option maxRecDepth 100000 in
theorem env_of {W : World} (hL : laidMetH Tryz.prog Rows.topInsertRow.laid W) (hS : W.ShapedOpen Tryz.prog) : Env W := by
  rw [MakeChecks.laidMetH_plain _ _ _ (by kernel_rfl)] at hL
  have h0 : laidMet Tryz.prog [("math/bits.deBruijn32tab", Rows.laid_math_bits_deBruijn32tab), ("math/bits.deBruijn64tab", Rows.laid_math_bits_deBruijn64tab), ("internal/strconv.uint64pow10", Rows.laid_internal_strconv_uint64pow10), ("unicode/utf8.acceptRanges", Rows.laid_unicode_utf8_acceptRanges), ("deadwax/sleeve.grows", Rows.laid_deadwax_sleeve_grows), ("strconv.ErrRange", Rows.laid_strconv_ErrRange), ("strconv.ErrSyntax", Rows.laid_strconv_ErrSyntax), ("unicode/utf8.first", Rows.laid_unicode_utf8_first)] W := hL
  have h2 := h0.tail.tail
  have h4 := h2.tail.tail
  have h5 := h4.tail
  have h6 := h5.tail
  exact ⟨⟨Go.Lib.tabIs_of_head (g := 2) (t := 439) (e := 389) (n := 20) (by kernel_rfl) (by kernel_rfl) Tryz.underlying439 Tryz.underlying389 (by kernel_rfl) (by kernel_rfl) (show laidMet Tryz.prog (("internal/strconv.uint64pow10", Go.Lib.tabData .u64 Go.Lib.pow10Tab) :: _) W from h2),
    Go.Proofs.cell_of_shapedOpen_int (zero := #[.int .i64 0]) (t := 3) hS (of_decide_eq_true (by kernel_rfl)) (by kernel_rfl) rfl (by kernel_rfl) (by kernel_rfl) Tryz.underlying3,
    err_cell (g := 3) (t := 225) (by kernel_rfl) (by kernel_rfl) Tryz.underlying225 h6,
    err_cell (g := 4) (t := 225) (by kernel_rfl) (by kernel_rfl) Tryz.underlying225 h5⟩, grows_of h4⟩
set_option maxRecDepth 100000 in
theorem open_ints {W : World} {cs : List Value} (h : Dat Tryz.prog W 38 cs) : ∃ A l c, cs = [.slice A (List.length l) c] ∧ RdL W 1 Side.eN A l ∧ l.length ≤ c ∧ c ≤ maxLen := by
  obtain ⟨A, l, c, h1, h2, _, h3, h4⟩ := Dat.slice (enc := Side.eN) (G := fun _ => True) 1 Tryz.underlying38 (by kernel_rfl) (fun cs h => by
    obtain ⟨z, e, _⟩ := Dat.int Tryz.underlying3 h
    exact ⟨z, trivial, e⟩) Side.eN_len h
  exact ⟨A, l, c, h1, h2, h3, h4⟩
theorem L_TopInsert {w : World} {A A2 A3 : Option Addr} {c c2 c3 : Nat} {l : List Take.Tk} {p : List Take.Prt} {f : List Int} (hE : Env w) (h : Take.Tks w A l) (_ : l.length ≤ c ∧ c ≤ maxLen) (hp : RdL w 7 Take.ePrt A2 p) (_ : p.length ≤ c2 ∧ c2 ≤ maxLen ∧ ∀ x ∈ p, x.wf) (hf : RdL w 1 Side.eN A3 f) (_ : f.length ≤ c3 ∧ c3 ≤ maxLen) :
    Con0 Tryz.prog 7 [.slice A l.length c, .slice A2 p.length c2, .slice A3 f.length c3] w (.bool true) := Ins.C_TopInsert hE.1 hE.2 h hp hf
end Go.Proofs.YtpbflnfcgcldkaaGreatDoor
