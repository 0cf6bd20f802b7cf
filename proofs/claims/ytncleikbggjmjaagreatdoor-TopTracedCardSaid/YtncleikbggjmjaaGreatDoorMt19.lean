/- Texts of this proof, one behind the other: Wb1, Wb2, Wb3. -/
import Derived.Test.YtncleikbggjmjaaGreatDoorMt0
import Derived.Test.YtncleikbggjmjaaGreatDoorMt14
import Derived.Test.YtncleikbggjmjaaGreatDoorMt13
import Derived.Test.YtncleikbggjmjaaGreatDoorMt16
import Derived.Test.YtncleikbggjmjaaGreatDoorMt18
/- A shop of plates: what it is made of; its smallest readers, walked. -/
namespace Go.Proofs.YtncleikbggjmjaaGreatDoor.Plg
open Go.Sx Go.Proofs Go.RowKit
open Side (eN eN_len eN_one getD_memT sh_trans)
open Lis (Plt ePlt ePlt_len)
abbrev kK (z : Int) : Value := I z
abbrev vU (_ : Unit) : Value := .agg #[]
theorem keyK : KeyOk Tryz.prog 3 kK := KeyOk.int Tryz.underlying3
theorem zvU : (Tryz.prog.info? 84).bind (·.zero) = some (vU ()) := by kernel_rfl
abbrev eAct (a : Nat → Int) : List Value := [I (a 0), I (a 1), I (a 2), I (a 3), I (a 4), I (a 5), I (a 6), I (a 7), I (a 8), I (a 9), I (a 10), I (a 11), I (a 12)]
abbrev aV (a : Nat → Int) : Value := .agg #[I (a 0), I (a 1), I (a 2), I (a 3), I (a 4), I (a 5), I (a 6), I (a 7), I (a 8), I (a 9), I (a 10), I (a 11), I (a 12)]
theorem eAct_len (a : Nat → Int) : (eAct a).length = 13 := rfl
theorem eAct_one (d : Nat → Int) : ∀ u ∈ eAct d, u.oneCell' = true := fun u h => by
  simp only [List.mem_cons, List.not_mem_nil, or_false] at h
  rcases h with rfl | rfl | rfl | rfl | rfl | rfl | rfl | rfl | rfl | rfl | rfl | rfl | rfl <;> rfl
abbrev eTri (x : Int × Int × Int) : List Value := [I x.1, I x.2.1, I x.2.2]
abbrev eTk (x : Int × Int × Int × Int) : List Value := [I x.1, I x.2.1, I x.2.2.1, I x.2.2.2]
abbrev eOr (x : Int × Int) : List Value := [I x.1, I x.2]
def ePtr (g : Nat) : List Value := [ptr g 0]
theorem eTk_len (x : Int × Int × Int × Int) : (eTk x).length = 4 := rfl
theorem eTk_one (x : Int × Int × Int × Int) : ∀ u ∈ eTk x, u.oneCell' = true := fun u h => by
  simp only [List.mem_cons, List.not_mem_nil, or_false] at h
  rcases h with rfl | rfl | rfl | rfl <;> rfl
theorem eOr_len (x : Int × Int) : (eOr x).length = 2 := rfl
theorem eOr_one (x : Int × Int) : ∀ u ∈ eOr x, u.oneCell' = true := fun u h => by
  simp only [List.mem_cons, List.not_mem_nil, or_false] at h
  rcases h with rfl | rfl <;> rfl
theorem eTri_len (x : Int × Int × Int) : (eTri x).length = 3 := rfl
theorem ePtr_len (g : Nat) : (ePtr g).length = 1 := rfl
theorem ePtr_one (g : Nat) : ∀ u ∈ ePtr g, u.oneCell' = true := fun u h => by unfold ePtr at h; rw [List.mem_singleton] at h; subst h; rfl
abbrev Sl := Option Addr × Nat × Items
structure PH where
  g : Nat
  r : Nat
  ob : Obj
  p : Plt
  f : Int → Option Unit
instance : Inhabited PH := ⟨⟨0, 0, .map #[] 0, default, fun _ => none⟩⟩
abbrev plB (p : Plt) (r : Nat) : Obj := blk [I p.kind, I p.par, I p.cut, I p.area, I p.thick, I p.grown, .bool p.ret, .map (some r)] 81
def PJ : List PH → Items
  | [] => []
  | q :: l => (q.g, plB q.p q.r) :: (q.r, q.ob) :: PJ l
theorem PJ_append : ∀ l m : List PH, PJ (l ++ m) = PJ l ++ PJ m
  | [], m => rfl
  | q :: l, m => by rw [List.cons_append, PJ, PJ, PJ_append l m]; rfl
structure Shp where
  b : Nat
  R : Nat → Int
  s1 : Sl
  s2 : Sl
  s3 : Sl
  s4 : Sl
  qs : List PH
  ts : List (Int × Int × Int × Int)
  fl : List (Int × Int)
  al : List (Nat → Int)
abbrev shC (R : Nat → Int) (A1 A2 A3 A4 : Option Addr) (n1 c1 n2 c2 n3 c3 n4 c4 : Nat) : List Value :=
  [.bool true, I (R 0), I (R 1), I (R 2), I (R 3), I (R 4), I (R 5), I (R 6), I (R 7), I (R 8), I (R 9), I (R 10), I (R 11), I (R 12), .slice A1 n1 c1, .slice A2 n2 c2, .slice A3 n3 c3, .slice A4 n4 c4]
abbrev Shp.cells (S : Shp) : List Value := shC S.R S.s1.1 S.s2.1 S.s3.1 S.s4.1 S.qs.length S.s1.2.1 S.ts.length S.s2.2.1 S.fl.length S.s3.2.1 S.al.length S.s4.2.1
abbrev Shp.gs (S : Shp) : List Nat := S.qs.map (·.g)
def PlOk1 (p : Plt) : Prop := 0 ≤ p.kind ∧ p.kind ≤ 3 ∧ 1 ≤ p.area ∧ 0 ≤ p.grown ∧ p.grown ≤ 16
structure Shp.Ok (S : Shp) : Prop where
  r1 : 1 ≤ S.R 11 ∧ S.R 11 ≤ 16
  r2 : 1 ≤ S.R 12 ∧ S.R 12 ≤ 16
  o1 : Own 1 76 ePtr S.gs (.slice S.s1.1 S.qs.length S.s1.2.1) S.s1.2.2
  o2 : Own 4 161 eTk S.ts (.slice S.s2.1 S.ts.length S.s2.2.1) S.s2.2.2
  o3 : Own 2 121 eOr S.fl (.slice S.s3.1 S.fl.length S.s3.2.1) S.s3.2.2
  o4 : Own 13 70 eAct S.al (.slice S.s4.1 S.al.length S.s4.2.1) S.s4.2.2
  n1 : S.qs.length ≤ 256
  n2 : S.ts.length ≤ 8
  n3 : S.fl.length ≤ 64
  n4 : S.al.length ≤ 1000
  ps : ∀ q ∈ S.qs, MapIs kK vU q.f q.ob ∧ PlOk1 q.p
abbrev Shp.W (S : Shp) (G : Items) : Items := (S.b, blk S.cells 75) :: (S.s1.2.2 ++ (S.s2.2.2 ++ (S.s3.2.2 ++ (S.s4.2.2 ++ (PJ S.qs ++ G)))))
structure St where
  l : List (Plt × (Int → Option Unit))
  nf : Nat
abbrev Shp.st (S : Shp) : St := ⟨S.qs.map fun q => (q.p, q.f), S.fl.length⟩
section
variable {w w0 : World} {A : Option Addr} {b c i : Nat} {R : Nat → Int} {A1 A2 A3 A4 : Option Addr} {n1 c1 n2 c2 n3 c3 n4 c4 : Nat} {gs : List Nat} {x lo hi z : Int}
theorem C_between : Con0 Tryz.prog 67 [I x, I lo, I hi] w (.bool (decide (lo ≤ x ∧ x ≤ hi))) := by
  refine Ret_of (vs := [_, _, _]) hm none' Tryz.func67 rfl Tryz.ntmps67 rfl ?_
  dsimp only [slotsOf]
  refine Zp 1 [] rfl ?_;refine Zv rfl ?_;refine GT_nil ?_;refine Zp 9 [] rfl ?_;refine Zr 2 rfl ?_;refine GT_S rfl (V_geq rfl rfl rfl) ?_;refine Zv rfl ?_;refine GT_split (d := 10) rfl (fun h1 => ?_) (fun h1 => ?_)
  · refine Zr 2 rfl ?_;refine GT_S rfl (V_leq rfl rfl rfl) ?_;refine Zr 2 rfl ?_;refine GT_nil ?_;refine GE_ret Tryz.func67 rfl (fun w hw => ⟨?_, hw.nil⟩)
    refine congrArg Value.bool ?_;simp;try omega
  · refine Zr 5 rfl ?_;refine GT_nil ?_;refine GE_ret Tryz.func67 rfl (fun w hw => ⟨?_, hw.nil⟩)
    refine congrArg Value.bool ?_;simp;try omega
def triOk (x : Int × Int × Int) : Bool := decide (x.2.1 ≤ x.1 ∧ x.1 ≤ x.2.2)
theorem C_all {l : List (Int × Int × Int)} (h : RdL w 3 eTri A l) (hl : l.length ≤ 1000) : Con0 Tryz.prog 66 [.slice A l.length c] w (.bool (l.all triOk)) := by
  refine Ret_of (vs := [_]) hm none' Tryz.func66 rfl Tryz.ntmps66 rfl ?_
  dsimp only [slotsOf]
  refine Zp 1 [] rfl ?_;refine Zv rfl ?_;refine Zz ?_;refine Zp 3 [] rfl ?_;refine Zv rfl ?_;refine Zn rfl Tryz.underlying212 ?_;refine Zv rfl ?_;refine GT_nil ?_;refine GE_block ?_;refine GE_to (GE_loop (ι := Nat) (fun k => l.length - k) (fun k => [(5, .slice A l.length c), (6, I l.length), (7, I k)]) (fun k => []) (fun k => k ≤ l.length ∧ ∀ j, j < k → triOk (l.getD j default) = true) ?_ 0 ?_) ⟨rfl, rfl, rfl, trivial⟩ HS.nil
  · rintro k ⟨hk, hall⟩ ih
    refine Zp 1 [] rfl ?_;refine GT_S rfl (V_lss rfl rfl rfl) ?_;refine Zz ?_;refine GE_cond rfl (fun q1 => ?_) (fun q1 => ?_)
    · have hkl : k < l.length := (by omega)
      refine GE_skip ?_;refine GE_seq ?_;refine GE_block ?_;refine Zp 4 [2, 3] rfl ?_;refine GT_S rfl (V_index rfl rfl rfl Tryz.underlying212 sz_158 (k := k) rfl hkl (h.isSome hkl)) ?_;refine GT_S rfl (V_loadN (vs := [_, _, _]) rfl rfl ag_158 sz_158 rfl (show CellsAt _ _ _ (eTri (l.getD k default)) from h.ats noM hkl)) ?_;refine Zb rfl zc_158 fun b4 => ?_;refine ZS [_, _, _] [_, _, _] rfl rfl sz_158 rfl rfl rfl ?_;refine GT_nil ?_;refine Zp 8 [6] rfl ?_;refine GT_S rfl (V_indexArr (kk := 0) rfl rfl rfl Tryz.underlying158 sz_2 rfl (by omega)) ?_;refine Zl rfl ag_2 rfl ?_;refine GT_S rfl (V_indexArr (kk := 1) rfl rfl rfl Tryz.underlying158 sz_2 rfl (by omega)) ?_;refine Zl rfl ag_2 rfl ?_;refine GT_S rfl (V_indexArr (kk := 2) rfl rfl rfl Tryz.underlying158 sz_2 rfl (by omega)) ?_;refine Zl rfl ag_2 rfl ?_;refine Zc rfl rn_67 (fun w hw => C_between) GR_nil ?_;refine GT_S rfl (V_not rfl rfl) ?_;refine GT_nil ?_;refine GE_condNot rfl (fun q2 => ?_) (fun q2 => ?_)
      · refine Zq [] 1 [] rfl rfl ?_;refine Zv rfl ?_;refine GT_nil ?_;refine GE_ret Tryz.func66 rfl (fun w hw => ⟨?_, hw.nil⟩)
        exact congrArg Value.bool (Bool.eq_iff_iff.2 ⟨fun q => (by cases q), fun q => absurd (of_decide_eq_true (List.all_eq_true.1 q _ (getD_memT hkl))) q2⟩)
      · refine GE_skip ?_;refine GE_inBlock ?_;refine Zs [5, 6, 7] rfl ?_;refine ZP 2 [1] rfl ?_;refine Za rfl (by omega) ?_;refine Zw rfl ?_;refine GT_nil ?_
        exact GE_to (ih (k + 1) ⟨by omega, fun j hj => by by_cases e : j = k; (subst e; exact decide_eq_true q2); exact hall j (by omega)⟩ (by omega)) ⟨rfl, rfl, rfl, trivial⟩ HS.nil
    · obtain rfl : k = l.length := (by omega)
      refine GE_exit rfl ?_;refine Zq [] 1 [] rfl rfl ?_;refine Zv rfl ?_;refine GT_nil ?_;refine GE_ret Tryz.func66 rfl (fun w hw => ⟨?_, hw.nil⟩)
      exact congrArg Value.bool (List.all_eq_true.2 fun x hx => (by obtain ⟨j, hj, rfl⟩ := List.getElem_of_mem hx; have := hall j hj; rwa [List.getD, List.getElem?_eq_getElem hj] at this)).symm
  · exact ⟨Nat.zero_le _, fun j hj => by omega⟩
theorem C_bad (h : BlkAt w b (shC R A1 A2 A3 A4 n1 c1 n2 c2 n3 c3 n4 c4) 75) : Con0 Tryz.prog 23 [ptr b 0] w (.bool false) := by
  refine Ret_of (vs := [_]) hm none' Tryz.func23 rfl Tryz.ntmps23 rfl ?_
  dsimp only [slotsOf]
  refine Zp 1 [] rfl ?_;refine Zv rfl ?_;refine GT_nil ?_;refine Zp 10 [] rfl ?_;refine Zv rfl ?_;refine GT_S rfl (V_eqlNilPtr rfl rfl rfl Tryz.underlying30) ?_;refine Zr 3 rfl ?_;refine Zf rfl fo_75_0 ?_;refine ZL rfl ag_4 (CellAt.old (h.cell rfl) (noM _)) ?_;refine GT_S rfl (V_notB rfl rfl) ?_;refine Zr 2 rfl ?_;refine GT_nil ?_;refine GE_ret Tryz.func23 rfl (fun w hw => ⟨?_, hw.nil⟩)
  rfl
theorem C_get (h : BlkAt w b (shC R A1 A2 A3 A4 gs.length c1 n2 c2 n3 c3 n4 c4) 75) (hr : RdL w 1 ePtr A1 gs) {k : Nat} (hk : k < gs.length) (hz : z = k) : Con0 Tryz.prog 29 [ptr b 0, I z] w (ptr (gs.getD k default) 0) := by
  subst hz
  refine Ret_of (vs := [_, _]) hm none' Tryz.func29 rfl Tryz.ntmps29 rfl ?_
  dsimp only [slotsOf]
  refine Zp 1 [] rfl ?_;refine Zv rfl ?_;refine Zz ?_;refine Zp 11 [] rfl ?_;refine Zv rfl ?_;refine GT_S rfl (V_isF (V_lss rfl rfl rfl) (by omega)) ?_;refine Zr 4 rfl ?_;refine Zf rfl fo_75_2 ?_;refine ZL rfl ag_71 (CellAt.old (h.cell rfl) (noM _)) ?_;refine Zn rfl Tryz.underlying71 ?_;refine GT_S rfl (V_isF (V_geq rfl rfl rfl) (by omega)) ?_;refine Zv rfl ?_;refine GT_nil ?_;refine GE_cond_f rfl ?_;refine GE_skip ?_;refine Zq [0, 1] 8 [] rfl rfl ?_;refine Zr 2 rfl ?_;refine Zf rfl fo_75_2 ?_;refine ZL rfl ag_71 (CellAt.old (h.cell rfl) (noM _)) ?_;refine Zv rfl ?_;refine GT_S rfl (V_index rfl rfl rfl Tryz.underlying71 sz_76 (k := k) rfl hk (hr.isSome hk)) ?_;refine ZL rfl ag_76 (hr.at0 noM hk rfl) ?_;refine Zv rfl ?_;refine GT_nil ?_;refine GE_ret Tryz.func29 rfl (fun w hw => ⟨?_, hw.nil⟩)
  rfl
theorem C_getN (h : BlkAt w b (shC R A1 A2 A3 A4 n1 c1 n2 c2 n3 c3 n4 c4) 75) (hz : z < 0 ∨ (n1 : Int) ≤ z) : Con0 Tryz.prog 29 [ptr b 0, I z] w (.pointer none) := by
  rcases Int.lt_or_le z 0 with hn | hn
  · refine Ret_of (vs := [_, _]) hm none' Tryz.func29 rfl Tryz.ntmps29 rfl ?_
    dsimp only [slotsOf]
    refine Zp 1 [] rfl ?_;refine Zv rfl ?_;refine Zz ?_;refine Zp 11 [] rfl ?_;refine Zv rfl ?_;refine GT_S rfl (V_isT (V_lss rfl rfl rfl) hn) ?_;refine Zr 9 rfl ?_;refine GT_nil ?_;refine GE_cond_t rfl ?_;refine Zq [] 1 [] rfl rfl ?_;refine Zv rfl ?_;refine GT_nil ?_;refine GE_ret Tryz.func29 rfl (fun w hw => ⟨?_, hw.nil⟩)
    rfl
  · have hz2 : (n1 : Int) ≤ z := by omega
    refine Ret_of (vs := [_, _]) hm none' Tryz.func29 rfl Tryz.ntmps29 rfl ?_
    dsimp only [slotsOf]
    refine Zp 1 [] rfl ?_;refine Zv rfl ?_;refine Zz ?_;refine Zp 11 [] rfl ?_;refine Zv rfl ?_;refine GT_S rfl (V_isF (V_lss rfl rfl rfl) (by omega)) ?_;refine Zr 4 rfl ?_;refine Zf rfl fo_75_2 ?_;refine ZL rfl ag_71 (CellAt.old (h.cell rfl) (noM _)) ?_;refine Zn rfl Tryz.underlying71 ?_;refine GT_S rfl (V_isT (V_geq rfl rfl rfl) hz2) ?_;refine Zv rfl ?_;refine GT_nil ?_;refine GE_cond_t rfl ?_;refine Zq [] 1 [] rfl rfl ?_;refine Zv rfl ?_;refine GT_nil ?_;refine GE_ret Tryz.func29 rfl (fun w hw => ⟨?_, hw.nil⟩)
    rfl
end
end Go.Proofs.YtncleikbggjmjaaGreatDoor.Plg
/- A shop of plates: recipes, valid acts, room and growth, walked. -/
namespace Go.Proofs.YtncleikbggjmjaaGreatDoor.Plg
open Go.Sx Go.Proofs Go.RowKit
open Side (eN eN_len eN_one getD_memT sh_trans)
open Lis (Plt ePlt ePlt_len)
structure RcOk (R : Nat → Int) : Prop where
  k : ∀ i, 1 ≤ i → i ≤ 3 → 0 ≤ R i ∧ R i ≤ R (4 + i) ∧ R (4 + i) ≤ 1073741824
  s : 0 ≤ R 8 ∧ R 8 ≤ 1073741824
  so : 0 ≤ R 9 ∧ R 9 ≤ 1048576
  ha : 0 ≤ R 10 ∧ R 10 ≤ 1048576
  m : 1 ≤ R 11 ∧ R 11 ≤ 16
  st : 1 ≤ R 12 ∧ R 12 ≤ 16
abbrev rV (R : Nat → Int) : Value := .agg #[I (R 0), I (R 1), I (R 2), I (R 3), I (R 4), I (R 5), I (R 6), I (R 7), I (R 8), I (R 9), I (R 10), I (R 11), I (R 12)]
abbrev eRc (R : Nat → Int) : List Value := [I (R 0), I (R 1), I (R 2), I (R 3), I (R 4), I (R 5), I (R 6), I (R 7), I (R 8), I (R 9), I (R 10), I (R 11), I (R 12)]
theorem eRc_at (R : Nat → Int) {i : Nat} (hi : i < 13) : (eRc R)[i]? = some (I (R i)) := by
  match i, hi with
  | 0, _ | 1, _ | 2, _ | 3, _ | 4, _ | 5, _ | 6, _ | 7, _ | 8, _ | 9, _ | 10, _ | 11, _ | 12, _ => rfl
  | n + 13, h => omega
section
variable {w w0 : World} {A : Option Addr} {b c i : Nat} {R a : Nat → Int} {x lo hi z : Int}
theorem C_within7 : Con0 Tryz.prog 17 [I x, I lo, I hi] w (.bool (decide (lo ≤ x ∧ x ≤ hi))) := by
  refine Ret_of (vs := [_, _, _]) hm none' Tryz.func17 rfl Tryz.ntmps17 rfl ?_
  dsimp only [slotsOf]
  refine Zp 1 [] rfl ?_;refine Zv rfl ?_;refine GT_nil ?_;refine Zp 9 [] rfl ?_;refine Zr 2 rfl ?_;refine GT_S rfl (V_geq rfl rfl rfl) ?_;refine Zv rfl ?_;refine GT_split (d := 10) rfl (fun h1 => ?_) (fun h1 => ?_)
  · refine Zr 2 rfl ?_;refine GT_S rfl (V_leq rfl rfl rfl) ?_;refine Zr 2 rfl ?_;refine GT_nil ?_;refine GE_ret Tryz.func17 rfl (fun w hw => ⟨?_, hw.nil⟩)
    refine congrArg Value.bool ?_;simp;try omega
  · refine Zr 5 rfl ?_;refine GT_nil ?_;refine GE_ret Tryz.func17 rfl (fun w hw => ⟨?_, hw.nil⟩)
    refine congrArg Value.bool ?_;simp;try omega
theorem C_allT {l : List (Int × Int × Int)} (h : RdL w 3 eTri A l) (ha : l.all triOk = true) (hl : l.length ≤ 1000) : Con0 Tryz.prog 66 [.slice A l.length c] w (.bool true) := ha ▸ C_all h hl
theorem C_CheckRecipe (h : RcOk R) : Con0 Tryz.prog 40 [rV R] w (I 0) := by
  refine Ret_of (vs := [_]) hm none' Tryz.func40 rfl Tryz.ntmps40 rfl ?_
  dsimp only [slotsOf]
  refine Zp 2 [0] rfl ?_;refine Zx [_, _, _, _, _, _, _, _, _, _, _, _, _] rfl rfl fun b1 => ?_;refine Zv rfl ?_;refine Zz ?_;refine Zp 1 [] rfl ?_;refine Zv rfl ?_;refine GT_nil ?_;refine GE_block ?_;refine GE_to (GE_loop (ι := Nat) (fun k => 4 - k) (fun k => [(1, ptr b1 0), (3, I k)]) (fun k => [(b1, blk (eRc R) 24)]) (fun k => 1 ≤ k ∧ k ≤ 4) ?_ 1 ?_) ⟨rfl, rfl, trivial⟩ (HS.cons rfl HS.nil)
  · rintro k ⟨hk1, hk⟩ ih
    refine GE_seq ?_;refine Zp 2 [] rfl ?_;refine Zv rfl ?_;refine GT_S rfl (V_leq rfl rfl rfl) ?_;refine GT_nil ?_;refine GE_cond rfl (fun q1 => ?_) (fun q1 => ?_)
    · have hk3 : k ≤ 3 := (by omega); have hkk := h.k k hk1 hk3
      refine GE_skip ?_;refine GE_seq ?_;refine GE_block ?_;refine GE_seq ?_;refine GE_drawn (.st 0 (.st 1 (.st 2 (.st 3 (.st 4 (.st 5 (.st 6 (.st 7 (.st 8 (.st 9 (.st 10 (.st 11 (.st 12 (.st 13 (.ld 14 [] (.ld 15 [] (.st 16 .nil))))))))))))))))) [14, 15] (by decide +kernel) ?_;refine Zv rfl ?_;refine Zf rfl fo_24_1 ?_;refine GT_S rfl (V_indexArr rfl rfl rfl Tryz.underlying22 sz_2 (kk := k) rfl (by omega)) ?_;refine ZL rfl ag_2 (CellAt.item (by exact eRc_at R (by omega))) ?_;refine GT_S rfl (V_build (vs := [_, _, _]) rfl rfl zc_158 pl_158 sa_158 rfl) ?_;refine Zv rfl ?_;refine Zf rfl fo_24_0 ?_;refine GT_S rfl (V_indexArr rfl rfl rfl Tryz.underlying22 sz_2 (kk := k) rfl (by omega)) ?_;refine ZL rfl ag_2 (CellAt.item (by exact eRc_at R (by omega))) ?_;refine Zv rfl ?_;refine Zf rfl fo_24_1 ?_;refine GT_S rfl (V_indexArr rfl rfl rfl Tryz.underlying22 sz_2 (kk := k) rfl (by omega)) ?_;refine ZL rfl ag_2 (CellAt.item (by exact eRc_at R (by omega))) ?_;refine GT_S rfl (V_build (vs := [_, _, _]) rfl rfl zc_158 pl_158 sa_158 rfl) ?_;refine GT_buildSlice (z := [_, _, _, _, _, _]) rfl rfl rfl rfl rfl Tryz.underlying212 zc_158 sz_158 (by decide) rfl rfl (fun _ => GR_nil) (fun b22 => ?_);refine Zc rfl rn_66 (fun w hw => C_allT (l := [(R (0 + 4 + k * 1), 0, 1073741824), (R (0 + 0 + k * 1), 0, R (0 + 4 + k * 1))]) (RdL.own' hw eTri_len) (by rw [show 0 + 4 + k * 1 = 4 + k by omega, show 0 + 0 + k * 1 = k by omega]; simp [triOk]; omega) (Nat.le_of_ble_eq_true rfl)) GR_nil ?_;refine GT_S rfl (V_notB rfl rfl) ?_;refine GT_nil ?_;refine GE_cond_f rfl ?_;refine GE_skip ?_;refine GE_inBlock ?_;refine Zs [1, 3] rfl ?_;refine ZP 3 [2] rfl ?_;refine Zv rfl ?_;refine Za rfl (by omega) ?_;refine Zw rfl ?_;refine GT_nil ?_
      exact GE_to (ih (k + 1) ⟨by omega, by omega⟩ (by omega)) ⟨rfl, rfl, trivial⟩ (HS.cons rfl HS.nil)
    · refine GE_exit rfl ?_;refine GE_seq ?_;refine Zp 18 [15, 16] rfl ?_;refine Zg rfl fo_24_2 rfl ag_2 rfl ?_;refine GT_S rfl (V_build (vs := [_, _, _]) rfl rfl zc_158 pl_158 sa_158 rfl) ?_;refine Zg rfl fo_24_3 rfl ag_2 rfl ?_;refine GT_S rfl (V_build (vs := [_, _, _]) rfl rfl zc_158 pl_158 sa_158 rfl) ?_;refine Zg rfl fo_24_4 rfl ag_2 rfl ?_;refine GT_S rfl (V_build (vs := [_, _, _]) rfl rfl zc_158 pl_158 sa_158 rfl) ?_;refine Zg rfl fo_24_5 rfl ag_3 rfl ?_;refine GT_S rfl (V_build (vs := [_, _, _]) rfl rfl zc_158 pl_158 sa_158 rfl) ?_;refine Zg rfl fo_24_6 rfl ag_3 rfl ?_;refine GT_S rfl (V_build (vs := [_, _, _]) rfl rfl zc_158 pl_158 sa_158 rfl) ?_;refine GT_buildSlice (z := [_, _, _, _, _, _, _, _, _, _, _, _, _, _, _]) rfl rfl rfl rfl rfl Tryz.underlying212 zc_158 sz_158 (by decide) rfl rfl (fun _ => GR_nil) (fun b40 => ?_);refine Zc rfl rn_66 (fun w hw => C_allT (l := [(R 8, 0, 1073741824), (R 9, 0, 1048576), (R 10, 0, 1048576), (R 11, 1, 16), (R 12, 1, 16)]) (RdL.own' hw eTri_len) (by simp [triOk]; exact ⟨h.s, h.so, h.ha, h.m, h.st⟩) (Nat.le_of_ble_eq_true rfl)) GR_nil ?_;refine GT_S rfl (V_notB rfl rfl) ?_;refine GT_nil ?_;refine GE_cond_f rfl ?_;refine GE_skip ?_;refine Zq [] 1 [] rfl rfl ?_;refine Zv rfl ?_;refine GT_nil ?_;refine GE_ret Tryz.func40 rfl (fun w hw => ⟨?_, hw.nil⟩)
      rfl
  · exact ⟨by omega, by omega⟩
set_option maxRecDepth 20000 in
theorem C_New {w : World} (h : RcOk R) : Con Tryz.prog 21 [rV R] w (fun _ : Nat => True) (fun b => .tuple #[ptr b 0, I 0]) (fun b => [(b, blk (shC R none none none none 0 0 0 0 0 0 0 0) 75)]) := by
  refine Ret_of (vs := [_]) hm none' Tryz.func21 rfl Tryz.ntmps21 rfl ?_
  dsimp only [slotsOf]
  refine Zp 3 [0] rfl ?_;refine Zx [_, _, _, _, _, _, _, _, _, _, _, _, _] rfl rfl fun b1 => ?_;refine Zr 2 rfl ?_;refine Zz ?_;refine Zp 3 [1] rfl ?_;refine ZN [_, _, _, _, _, _, _, _, _, _, _, _, _] rfl ag_24 sz_24 rfl rfl ?_;refine Zc rfl rn_40 (fun w hw => C_CheckRecipe h) GR_nil ?_;refine Zv rfl ?_;refine GT_nil ?_;refine Zq [1, 4] 2 [] rfl rfl ?_;refine Zv rfl ?_;refine GT_S rfl (V_isF (V_neq rfl rfl rfl) (fun q => q rfl)) ?_;refine GT_nil ?_;refine GE_cond_f rfl ?_;refine GE_skip ?_;refine Zp 5 [2] rfl ?_;refine ZN [_, _, _, _, _, _, _, _, _, _, _, _, _] rfl ag_24 sz_24 rfl rfl ?_;refine GT_S rfl (V_build (vs := [_, _, _, _, _, _, _, _, _, _, _, _, _, _, _, _, _, _]) rfl rfl zc_75 pl_75 sa_75 rfl) ?_;refine Zx [_, _, _, _, _, _, _, _, _, _, _, _, _, _, _, _, _, _] rfl rfl fun b12 => ?_;refine Zr 2 rfl ?_;refine GT_nil ?_;refine GE_ret Tryz.func21 ⟨_, _, rfl, rfl, rfl⟩ (fun w hw => ?_)
  exact ⟨b12, trivial, rfl, hw.hs (C := cx Tryz.prog hm 0 0 _ none' fun _ _ => True) (HS.cons rfl HS.nil)⟩
set_option maxRecDepth 20000 in
set_option maxHeartbeats 1000000 in
theorem C_refRecipe : Con Tryz.prog 4 [rV R] w (fun e : Int => e = 0 → RcOk R) (fun e => I e) (fun _ => []) := by
  refine Ret_of (vs := [_]) hm none' Tryz.func4 rfl Tryz.ntmps4 rfl ?_
  dsimp only [slotsOf]
  refine Zp 2 [0] rfl ?_;refine Zx [_, _, _, _, _, _, _, _, _, _, _, _, _] rfl rfl fun b1 => ?_;refine Zv rfl ?_;refine Zz ?_;refine Zp 1 [] rfl ?_;refine Zv rfl ?_;refine GT_nil ?_;refine GE_block ?_;refine GE_to (GE_loop (ι := Nat) (fun k => 4 - k) (fun k => [(1, ptr b1 0), (3, I k)]) (fun k => [(b1, blk (eRc R) 24)]) (fun k => 1 ≤ k ∧ k ≤ 4 ∧ ∀ j, 1 ≤ j → j < k → 0 ≤ R j ∧ R j ≤ R (4 + j) ∧ R (4 + j) ≤ 1073741824) ?_ 1 ?_) ⟨rfl, rfl, trivial⟩ (HS.cons rfl HS.nil)
  · rintro k ⟨hk1, hk, hall⟩ ih
    refine GE_seq ?_;refine Zp 2 [] rfl ?_;refine Zv rfl ?_;refine GT_S rfl (V_lss rfl rfl rfl) ?_;refine GT_nil ?_;refine GE_cond rfl (fun q1 => ?_) (fun q1 => ?_)
    · have hk3 : k ≤ 3 := (by omega)
      refine GE_skip ?_;refine GE_seq ?_;refine GE_block ?_;refine GE_seq ?_;refine GE_drawn (.st 0 (.st 1 (.st 2 (.st 3 (.ld 4 [] (.st 5 (.st 6 (.st 7 (.st 8 (.st 9 (.st 10 (.st 11 (.st 12 (.st 13 (.st 14 (.ld 15 [] (.st 16 (.st 17 .nil)))))))))))))))))) [4, 15] (by decide +kernel) ?_;refine Zv rfl ?_;refine Zf rfl fo_24_0 ?_;refine GT_S rfl (V_indexArr rfl rfl rfl Tryz.underlying22 sz_2 (kk := k) rfl (by omega)) ?_;refine ZL rfl ag_2 (CellAt.item (by exact eRc_at R (by omega))) ?_;refine Zc rfl rn_17 (fun w hw => C_within7) GR_nil ?_;refine GT_S rfl (V_not rfl rfl) ?_;refine Zv rfl ?_;refine GT_splitNot (d := 14) rfl (fun q2 => ?_) (fun q2 => ?_)
      · refine Zr 8 rfl ?_;refine GT_skip_ld rfl rfl rfl rfl rfl (by decide) rfl rfl rfl GR_nil ?_;refine Zr 2 rfl ?_;refine GT_nil ?_;refine GE_cond_t rfl ?_;refine Zq [] 1 [] rfl rfl ?_;refine Zv rfl ?_;refine GT_nil ?_;refine GE_ret Tryz.func4 rfl (fun w hw => ?_)
        exact ⟨2, fun q => (by cases q), rfl, hw.nil⟩
      · refine Zv rfl ?_;refine Zf rfl fo_24_1 ?_;refine GT_S rfl (V_indexArr rfl rfl rfl Tryz.underlying22 sz_2 (kk := k) rfl (by omega)) ?_;refine ZL rfl ag_2 (CellAt.item (by exact eRc_at R (by omega))) ?_;refine Zv rfl ?_;refine Zf rfl fo_24_0 ?_;refine GT_S rfl (V_indexArr rfl rfl rfl Tryz.underlying22 sz_2 (kk := k) rfl (by omega)) ?_;refine ZL rfl ag_2 (CellAt.item (by exact eRc_at R (by omega))) ?_;refine Zc rfl rn_17 (fun w hw => C_within7) GR_nil ?_;refine GT_S rfl (V_not rfl rfl) ?_;refine Zv rfl ?_;refine GT_nil ?_;refine GE_condNot rfl (fun q3 => ?_) (fun q3 => ?_)
        · refine Zq [] 1 [] rfl rfl ?_;refine Zv rfl ?_;refine GT_nil ?_;refine GE_ret Tryz.func4 rfl (fun w hw => ?_)
          exact ⟨2, fun q => (by cases q), rfl, hw.nil⟩
        · refine GE_skip ?_;refine GE_inBlock ?_;refine Zs [1, 3, 15, 16, 17, 18, 19, 20, 21, 22, 23, 24] rfl ?_;refine ZP 3 [2] rfl ?_;refine Zv rfl ?_;refine Za rfl (by omega) ?_;refine Zw rfl ?_;refine GT_nil ?_
          exact GE_to (ih (k + 1) ⟨by omega, by omega, fun j h1 h2 => by by_cases e : j = k; (subst e; rw [show 0 + 0 + j * 1 = j by omega] at q2 q3; rw [show 0 + 4 + j * 1 = 4 + j by omega] at q3; omega); exact hall j h1 (by omega)⟩ (by omega)) ⟨rfl, rfl, trivial⟩ (HS.cons rfl HS.nil)
    · obtain rfl : k = 4 := (by omega)
      refine GE_exit rfl ?_;refine GE_seq ?_;refine Zp 36 [2, 7, 13] rfl ?_;refine Zg rfl fo_24_2 rfl ag_2 rfl ?_;refine Zc rfl rn_17 (fun w hw => C_within7) GR_nil ?_;refine GT_S rfl (V_not rfl rfl) ?_;refine Zv rfl ?_;refine GT_splitNot (d := 30) rfl (fun q4 => ?_) (fun q4 => ?_)
      · refine Zr 2 rfl ?_;refine GT_skip_ld rfl rfl rfl rfl rfl (by decide) rfl rfl rfl GR_nil ?_;refine Zr 5 rfl ?_;refine GT_skip_ld rfl rfl rfl rfl rfl (by decide) rfl rfl rfl GR_nil ?_;refine Zr 22 rfl ?_;refine GT_nil ?_;refine GE_cond_t rfl ?_;refine Zq [] 1 [] rfl rfl ?_;refine Zv rfl ?_;refine GT_nil ?_;refine GE_ret Tryz.func4 rfl (fun w hw => ?_)
        exact ⟨2, fun q => (by cases q), rfl, hw.nil⟩
      · refine Zg rfl fo_24_3 rfl ag_2 rfl ?_;refine Zc rfl rn_17 (fun w hw => C_within7) GR_nil ?_;refine GT_S rfl (V_not rfl rfl) ?_;refine Zr 2 rfl ?_;refine GT_splitNot (d := 36) rfl (fun q5 => ?_) (fun q5 => ?_)
        · refine Zr 2 rfl ?_;refine GT_skip_ld rfl rfl rfl rfl rfl (by decide) rfl rfl rfl GR_nil ?_;refine Zr 22 rfl ?_;refine GT_nil ?_;refine GE_cond_t rfl ?_;refine Zq [] 1 [] rfl rfl ?_;refine Zv rfl ?_;refine GT_nil ?_;refine GE_ret Tryz.func4 rfl (fun w hw => ?_)
          exact ⟨2, fun q => (by cases q), rfl, hw.nil⟩
        · refine Zg rfl fo_24_4 rfl ag_2 rfl ?_;refine Zc rfl rn_17 (fun w hw => C_within7) GR_nil ?_;refine GT_S rfl (V_not rfl rfl) ?_;refine Zr 2 rfl ?_;refine GT_splitNot (d := 42) rfl (fun q6 => ?_) (fun q6 => ?_)
          · refine Zr 19 rfl ?_;refine GT_nil ?_;refine GE_cond_t rfl ?_;refine Zq [] 1 [] rfl rfl ?_;refine Zv rfl ?_;refine GT_nil ?_;refine GE_ret Tryz.func4 rfl (fun w hw => ?_)
            exact ⟨2, fun q => (by cases q), rfl, hw.nil⟩
          · refine Zg rfl fo_24_5 rfl ag_3 rfl ?_;refine GT_S rfl (V_lss rfl rfl rfl) ?_;refine Zr 2 rfl ?_;refine GT_split (d := 47) rfl (fun q7 => ?_) (fun q7 => ?_)
            · refine Zr 14 rfl ?_;refine GT_nil ?_;refine GE_cond_t rfl ?_;refine Zq [] 1 [] rfl rfl ?_;refine Zv rfl ?_;refine GT_nil ?_;refine GE_ret Tryz.func4 rfl (fun w hw => ?_)
              exact ⟨2, fun q => (by cases q), rfl, hw.nil⟩
            · refine Zg rfl fo_24_5 rfl ag_3 rfl ?_;refine GT_S rfl (V_gtr rfl rfl rfl) ?_;refine Zr 2 rfl ?_;refine GT_split (d := 52) rfl (fun q8 => ?_) (fun q8 => ?_)
              · refine Zr 9 rfl ?_;refine GT_nil ?_;refine GE_cond_t rfl ?_;refine Zq [] 1 [] rfl rfl ?_;refine Zv rfl ?_;refine GT_nil ?_;refine GE_ret Tryz.func4 rfl (fun w hw => ?_)
                exact ⟨2, fun q => (by cases q), rfl, hw.nil⟩
              · refine Zg rfl fo_24_6 rfl ag_3 rfl ?_;refine GT_S rfl (V_lss rfl rfl rfl) ?_;refine Zr 2 rfl ?_;refine GT_split (d := 57) rfl (fun q9 => ?_) (fun q9 => ?_)
                · refine Zr 4 rfl ?_;refine GT_nil ?_;refine GE_cond_t rfl ?_;refine Zq [] 1 [] rfl rfl ?_;refine Zv rfl ?_;refine GT_nil ?_;refine GE_ret Tryz.func4 rfl (fun w hw => ?_)
                  exact ⟨2, fun q => (by cases q), rfl, hw.nil⟩
                · refine Zg rfl fo_24_6 rfl ag_3 rfl ?_;refine GT_S rfl (V_gtr rfl rfl rfl) ?_;refine Zv rfl ?_;refine GT_nil ?_;refine GE_cond rfl (fun q10 => ?_) (fun q10 => ?_)
                  · refine Zq [] 1 [] rfl rfl ?_;refine Zv rfl ?_;refine GT_nil ?_;refine GE_ret Tryz.func4 rfl (fun w hw => ?_)
                    exact ⟨2, fun q => (by cases q), rfl, hw.nil⟩
                  · refine GE_skip ?_;refine Zq [] 1 [] rfl rfl ?_;refine Zv rfl ?_;refine GT_nil ?_;refine GE_ret Tryz.func4 rfl (fun w hw => ?_)
                    exact ⟨0, fun _ => ⟨fun i h1 h2 => hall i h1 (by omega), q4, q5, q6, by omega, by omega⟩, rfl, hw.nil⟩
  · exact ⟨by omega, by omega, fun j h1 h2 => by omega⟩
end
end Go.Proofs.YtncleikbggjmjaaGreatDoor.Plg
/- A shop of plates: valid acts, room and growth, walked. -/
namespace Go.Proofs.YtncleikbggjmjaaGreatDoor.Plg
open Go.Sx Go.Proofs Go.RowKit
open Side (eN eN_len eN_one getD_memT sh_trans)
open Lis (Plt ePlt ePlt_len)
def cap (R : Nat → Int) : Nat → Int
  | 0 => 1
  | 1 => R 11
  | 2 => R 12
  | _ => 0
theorem cap_bd {R : Nat → Int} (h1 : 1 ≤ R 11 ∧ R 11 ≤ 16) (h2 : 1 ≤ R 12 ∧ R 12 ≤ 16) (k : Nat) : 0 ≤ cap R k ∧ cap R k ≤ 16 := by
  unfold cap; split <;> omega
theorem cap_at (R : Nat → Int) {k : Nat} (h : k ≤ 3) : [I 1, I (R 11), I (R 12), I 0][k]? = some (I (cap R k)) := by
  match k, h with
  | 0, _ | 1, _ | 2, _ | 3, _ => rfl
  | n + 4, h => omega
section
variable {w w0 : World} {A : Option Addr} {b c g r i : Nat} {R a : Nat → Int} {x lo hi z : Int} {A1 A2 A3 A4 : Option Addr} {n1 c1 n2 c2 n3 c3 n4 c4 : Nat} {gs : List Nat} {p : Plt} {ts : List (Int × Int × Int × Int)}
theorem C_valid : Con Tryz.prog 41 [aV a] w (fun v : Bool => v = true → (a 0 = 1 ∧ 1 ≤ a 2) ∨ (2 ≤ a 0 ∧ a 0 ≤ 6)) (fun v => .bool v) (fun _ => []) := by
  refine Ret_of (vs := [_]) hm none' Tryz.func41 rfl Tryz.ntmps41 rfl ?_
  dsimp only [slotsOf]
  refine Zp 2 [0] rfl ?_;refine Zx [_, _, _, _, _, _, _, _, _, _, _, _, _] rfl rfl fun b1 => ?_;refine Zv rfl ?_;refine Zz ?_;refine Zp 2 [] rfl ?_;refine Zg rfl fo_70_0 rfl ag_3 rfl ?_;refine GT_nil ?_;refine GE_block ?_;refine Zp 2 [] rfl ?_;refine GT_S rfl (V_eql rfl rfl rfl) ?_;refine Zv rfl ?_;refine GT_nil ?_;refine GE_cond rfl (fun q1 => ?_) (fun q1 => ?_)
  · refine Zq [1] 9 [6, 7] rfl rfl ?_;refine Zg rfl fo_70_1 rfl ag_2 rfl ?_;refine GT_S rfl (V_build (vs := [_, _, _]) rfl rfl zc_158 pl_158 sa_158 rfl) ?_;refine Zg rfl fo_70_2 rfl ag_2 rfl ?_;refine GT_S rfl (V_build (vs := [_, _, _]) rfl rfl zc_158 pl_158 sa_158 rfl) ?_;refine GT_buildSlice (z := [_, _, _, _, _, _]) rfl rfl rfl rfl rfl Tryz.underlying212 zc_158 sz_158 (by decide) rfl rfl (fun _ => GR_nil) (fun b13 => ?_);refine Zc rfl rn_66 (fun w hw => C_all (l := [(a 1, 0, 1099511627776), (a 2, 1, 1048576)]) (RdL.own' hw eTri_len) (Nat.le_of_ble_eq_true rfl)) GR_nil ?_;refine Zv rfl ?_;refine GT_nil ?_;refine GE_ret Tryz.func41 rfl (fun w hw => ?_)
    exact ⟨_, fun q => .inl ⟨q1, by simp [triOk] at q; omega⟩, rfl, hw.nil⟩
  · refine Zq [1, 4] 2 [] rfl rfl ?_;refine GT_S rfl (V_eql rfl rfl rfl) ?_;refine Zv rfl ?_;refine GT_nil ?_;refine GE_cond rfl (fun q2 => ?_) (fun q2 => ?_)
    · refine Zp 9 [6, 7] rfl ?_;refine Zg rfl fo_70_3 rfl ag_2 rfl ?_;refine GT_S rfl (V_build (vs := [_, _, _]) rfl rfl zc_158 pl_158 sa_158 rfl) ?_;refine Zg rfl fo_70_4 rfl ag_2 rfl ?_;refine GT_S rfl (V_build (vs := [_, _, _]) rfl rfl zc_158 pl_158 sa_158 rfl) ?_;refine GT_buildSlice (z := [_, _, _, _, _, _]) rfl rfl rfl rfl rfl Tryz.underlying212 zc_158 sz_158 (by decide) rfl rfl (fun _ => GR_nil) (fun b23 => ?_);refine Zc rfl rn_66 (fun w hw => C_all (l := [(a 3, 0, 1099511627776), (a 4, 1, 1000)]) (RdL.own' hw eTri_len) (Nat.le_of_ble_eq_true rfl)) GR_nil ?_;refine Zv rfl ?_;refine GT_nil ?_;refine GE_ret Tryz.func41 rfl (fun w hw => ?_)
      exact ⟨_, fun q => .inr (by omega), rfl, hw.nil⟩
    · refine Zp 2 [] rfl ?_;refine GT_S rfl (V_eql rfl rfl rfl) ?_;refine Zv rfl ?_;refine GT_nil ?_;refine GE_cond rfl (fun q3 => ?_) (fun q3 => ?_)
      · refine Zq [1] 17 [14, 15] rfl rfl ?_;refine Zf rfl fo_70_7 ?_;refine GT_S rfl (V_indexArr (kk := 0) rfl rfl rfl Tryz.underlying68 sz_2 rfl (by omega)) ?_;refine Zl rfl ag_2 rfl ?_;refine GT_S rfl (V_build (vs := [_, _, _]) rfl rfl zc_158 pl_158 sa_158 rfl) ?_;refine Zf rfl fo_70_7 ?_;refine GT_S rfl (V_indexArr (kk := 1) rfl rfl rfl Tryz.underlying68 sz_2 rfl (by omega)) ?_;refine Zl rfl ag_2 rfl ?_;refine GT_S rfl (V_build (vs := [_, _, _]) rfl rfl zc_158 pl_158 sa_158 rfl) ?_;refine Zg rfl fo_70_8 rfl ag_2 rfl ?_;refine GT_S rfl (V_build (vs := [_, _, _]) rfl rfl zc_158 pl_158 sa_158 rfl) ?_;refine Zg rfl fo_70_9 rfl ag_2 rfl ?_;refine GT_S rfl (V_build (vs := [_, _, _]) rfl rfl zc_158 pl_158 sa_158 rfl) ?_;refine GT_buildSlice (z := [_, _, _, _, _, _, _, _, _, _, _, _]) rfl rfl rfl rfl rfl Tryz.underlying212 zc_158 sz_158 (by decide) rfl rfl (fun _ => GR_nil) (fun b41 => ?_);refine Zc rfl rn_66 (fun w hw => C_all (l := [(a 7, 0, 1048576), (a 8, 0, 1048576), (a 9, 0, 1048576), (a 10, 0, 1048576)]) (RdL.own' hw eTri_len) (Nat.le_of_ble_eq_true rfl)) GR_nil ?_;refine Zv rfl ?_;refine GT_nil ?_;refine GE_ret Tryz.func41 rfl (fun w hw => ?_)
        exact ⟨_, fun q => .inr (by omega), rfl, hw.nil⟩
      · refine Zq [1, 4] 2 [] rfl rfl ?_;refine GT_S rfl (V_eql rfl rfl rfl) ?_;refine Zv rfl ?_;refine GT_nil ?_;refine GE_cond rfl (fun q4 => ?_) (fun q4 => ?_)
        · refine Zp 4 [2] rfl ?_;refine Zg rfl fo_70_10 rfl ag_3 rfl ?_;refine Zc rfl rn_67 (fun w hw => C_between) GR_nil ?_;refine Zv rfl ?_;refine GT_nil ?_;refine GE_ret Tryz.func41 rfl (fun w hw => ?_)
          exact ⟨_, fun q => .inr (by omega), rfl, hw.nil⟩
        · refine GE_seq ?_;refine Zp 2 [] rfl ?_;refine GT_S rfl (V_eql rfl rfl rfl) ?_;refine Zv rfl ?_;refine GT_nil ?_;refine GE_cond rfl (fun q5 => ?_) (fun q5 => ?_)
          · refine GE_skip ?_;refine GE_cond rfl (fun q5 => ?_) (fun q5 => ?_)
            · refine Zq [] 1 [] rfl rfl ?_;refine Zv rfl ?_;refine GT_nil ?_;refine GE_ret Tryz.func41 rfl (fun w hw => ?_)
              first | exact ⟨true, fun q => .inr (by omega), rfl, hw.nil⟩ | exact ⟨false, fun q => (by cases q), rfl, hw.nil⟩
            · refine GE_skip ?_;refine GE_inBlock ?_;refine Zq [] 1 [] rfl rfl ?_;refine Zv rfl ?_;refine GT_nil ?_;refine GE_ret Tryz.func41 rfl (fun w hw => ?_)
              first | exact ⟨true, fun q => .inr (by omega), rfl, hw.nil⟩ | exact ⟨false, fun q => (by cases q), rfl, hw.nil⟩
          · refine Zs [4] rfl ?_;refine ZP 2 [] rfl ?_;refine GT_S rfl (V_eql rfl rfl rfl) ?_;refine Zv rfl ?_;refine GT_nil ?_;refine GE_cond rfl (fun q5 => ?_) (fun q5 => ?_)
            · refine Zp 1 [] rfl ?_;refine Zv rfl ?_;refine GT_nil ?_;refine GE_ret Tryz.func41 rfl (fun w hw => ?_)
              first | exact ⟨true, fun q => .inr (by omega), rfl, hw.nil⟩ | exact ⟨false, fun q => (by cases q), rfl, hw.nil⟩
            · refine GE_skip ?_;refine GE_inBlock ?_;refine Zp 1 [] rfl ?_;refine Zv rfl ?_;refine GT_nil ?_;refine GE_ret Tryz.func41 rfl (fun w hw => ?_)
              first | exact ⟨true, fun q => .inr (by omega), rfl, hw.nil⟩ | exact ⟨false, fun q => (by cases q), rfl, hw.nil⟩
theorem C_room (h : BlkAt w b (shC R A1 A2 A3 A4 n1 c1 n2 c2 n3 c3 n4 c4) 75) (hg : BlkAt w g [I p.kind, I p.par, I p.cut, I p.area, I p.thick, I p.grown, .bool p.ret, .map (some r)] 81) (hp : PlOk1 p) (h1 : 1 ≤ R 11 ∧ R 11 ≤ 16) (h2 : 1 ≤ R 12 ∧ R 12 ≤ 16) :
    Con0 Tryz.prog 61 [ptr b 0, ptr g 0] w (I (if p.ret = true then 0 else max 0 (cap R p.kind.toNat - p.grown))) := by
  obtain ⟨hk0, hk3, ha, hg0, hg16⟩ := hp
  have hkd : p.kind = (p.kind.toNat : Int) := by omega
  have hcb := cap_bd h1 h2 p.kind.toNat
  refine Ret_of (vs := [_, _]) hm none' Tryz.func61 rfl Tryz.ntmps61 rfl ?_
  dsimp only [slotsOf]
  refine Zp 1 [] rfl ?_;refine Zv rfl ?_;refine Zz ?_;refine Zp 5 [] rfl ?_;refine Zr 2 rfl ?_;refine Zf rfl fo_81_0 ?_;refine Zf rfl fo_78_6 ?_;refine ZL rfl ag_4 (CellAt.old (hg.cell rfl) (noM _)) ?_;refine GT_nil ?_;refine GE_condB rfl (fun q1 => ?_) (fun q1 => ?_)
  · refine Zq [] 1 [] rfl rfl ?_;refine Zv rfl ?_;refine GT_nil ?_;refine GE_ret Tryz.func61 rfl (fun w hw => ⟨?_, hw.nil⟩)
    rw [if_pos q1]
  · refine GE_skip ?_;refine GE_seq ?_;refine Zs [0, 1] rfl ?_;refine GE_drawn (.st 0 (.st 1 (.st 2 (.st 3 (.st 4 (.st 5 (.st 6 (.st 7 (.st 8 (.st 9 (.st 10 (.st 11 (.st 12 (.st 13 (.st 14 (.st 15 (.st 16 (.st 17 (.st 18 (.st 19 (.st 20 (.st 21 (.st 22 (.st 23 (.st 24 .nil))))))))))))))))))))))))) [] (by decide +kernel) ?_;refine Zr 2 rfl ?_;refine Zf rfl fo_75_1 ?_;refine Zf rfl fo_24_5 ?_;refine ZL rfl ag_3 (CellAt.old (h.cell rfl) (noM _)) ?_;refine Zr 2 rfl ?_;refine Zf rfl fo_75_1 ?_;refine Zf rfl fo_24_6 ?_;refine ZL rfl ag_3 (CellAt.old (h.cell rfl) (noM _)) ?_;refine GT_S rfl (V_build (vs := [_, _, _, _]) rfl rfl zc_146 pl_146 sa_146 rfl) ?_;refine Zr 2 rfl ?_;refine Zf rfl fo_81_0 ?_;refine Zf rfl fo_78_0 ?_;refine ZL rfl ag_3 (CellAt.old (hg.cell rfl) (noM _)) ?_;refine GT_S rfl (V_indexAgg rfl rfl rfl Tryz.underlying146 ag_3 sz_3 (kk := p.kind.toNat) hkd (by omega) (by rw [Nat.mul_one]; exact cap_at R (by omega))) ?_;refine Zr 2 rfl ?_;refine Zf rfl fo_81_0 ?_;refine Zf rfl fo_78_5 ?_;refine ZL rfl ag_3 (CellAt.old (hg.cell rfl) (noM _)) ?_;refine GT_S rfl (V_sub rfl rfl rfl (wrap_i64 (show -9223372036854775808 ≤ cap R p.kind.toNat - p.grown ∧ cap R p.kind.toNat - p.grown ≤ 9223372036854775807 by omega))) ?_;refine GT_S rfl (V_max rfl rfl rfl) ?_;refine Zv rfl ?_;refine GT_nil ?_;refine GE_ret Tryz.func61 rfl (fun w hw => ⟨?_, hw.nil⟩)
    rw [if_neg (by rw [q1]; decide)]
theorem C_growth (h : BlkAt w b (shC R A1 A2 A3 A4 n1 c1 ts.length c2 n3 c3 n4 c4) 75) (ht : RdL w 4 eTk A2 ts) {k : Nat} (hk : k < ts.length) (hb : a 6 = k) :
    Con Tryz.prog 71 [ptr b 0, aV a] w (fun _ : Int × Int × Int => True) (fun y => .agg #[I y.1, I y.2.1, I y.2.2]) (fun _ => []) := by
  refine Ret_of (vs := [_, _]) hm none' Tryz.func71 rfl Tryz.ntmps71 rfl ?_
  dsimp only [slotsOf]
  refine Zp 2 [0, 1] rfl ?_;refine Zx [_, _, _, _, _, _, _, _, _, _, _, _, _] rfl rfl fun b3 => ?_;refine Zb rfl zc_165 fun b4 => ?_;refine Zz ?_;refine GE_drawn (.st 0 (.st 1 (.st 2 (.st 3 (.st 4 (.st 5 (.st 6 (.st 7 (.st 8 (.st 9 .nil)))))))))) [] (by decide +kernel) ?_;refine Zr 2 rfl ?_;refine Zf rfl fo_75_3 ?_;refine ZL rfl ag_72 (CellAt.old (h.cell rfl) (noM _)) ?_;refine Zg rfl fo_70_6 rfl ag_3 rfl ?_;refine GT_S rfl (V_index rfl rfl rfl Tryz.underlying72 sz_161 (k := k) hb hk (ht.isSome hk)) ?_;refine GT_S rfl (V_fieldA rfl rfl fo_161_1) ?_;refine ZL rfl ag_2 (ht.at1 noM hk rfl) ?_;refine Zv rfl ?_;refine Zz ?_;refine Zs [3, 4, 5] rfl ?_;refine GE_drawn (.st 0 (.st 1 (.st 2 (.st 3 (.st 4 (.st 5 (.st 6 (.st 7 (.st 8 (.st 9 (.st 10 (.st 11 (.st 12 (.st 13 .nil)))))))))))))) [] (by decide +kernel) ?_;refine Zf rfl fo_70_7 ?_;refine GT_S rfl (V_indexArr (kk := 0) rfl rfl rfl Tryz.underlying68 sz_2 rfl (by omega)) ?_;refine Zl rfl ag_2 rfl ?_;refine Zf rfl fo_70_7 ?_;refine GT_S rfl (V_indexArr (kk := 1) rfl rfl rfl Tryz.underlying68 sz_2 rfl (by omega)) ?_;refine Zl rfl ag_2 rfl ?_;refine GT_S rfl (V_mul rfl rfl rfl (rfl)) ?_;refine Zg rfl fo_70_8 rfl ag_2 rfl ?_;refine Zg rfl fo_70_9 rfl ag_2 rfl ?_;refine GT_S rfl (V_mul rfl rfl rfl (rfl)) ?_;refine Zr 2 rfl ?_;refine GT_nil ?_;refine Zq [4, 5, 6, 7] 18 [17] rfl rfl ?_;refine Zr 2 rfl ?_;refine GT_S rfl (V_mul rfl rfl rfl (rfl)) ?_;refine GT_S rfl (V_quo rfl rfl rfl (by omega) (rfl)) ?_;refine Zr 2 rfl ?_;refine GT_S rfl (V_mul rfl rfl rfl (rfl)) ?_;refine GT_S rfl (V_quo rfl rfl rfl (by omega) (rfl)) ?_;refine Zr 2 rfl ?_;refine GT_S rfl (V_mul rfl rfl rfl (rfl)) ?_;refine GT_S rfl (V_quo rfl rfl rfl (by omega) (rfl)) ?_;refine GT_S rfl (V_add rfl rfl rfl (rfl)) ?_;refine Zr 2 rfl ?_;refine GT_S rfl (V_add rfl rfl rfl (rfl)) ?_;refine GT_S rfl (V_build (vs := [_, _, _]) rfl rfl zc_165 pl_165 sa_165 rfl) ?_;refine ZS [_, _, _] [_, _, _] rfl rfl sz_165 rfl rfl rfl ?_;refine GT_nil ?_;refine GE_ret Tryz.func71 ⟨_, rfl, fun w m => run_loadVar_agg (vs := [_, _, _]) ag_165 sz_165 rfl (fun j v hj => CellsAt.item rfl j v hj w m)⟩ (fun w hw => ?_)
  exact ⟨(_, _, _), trivial, rfl, hw.nil⟩
end
end Go.Proofs.YtncleikbggjmjaaGreatDoor.Plg
