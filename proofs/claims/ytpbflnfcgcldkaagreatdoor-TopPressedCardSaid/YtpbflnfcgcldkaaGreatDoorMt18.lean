/- Texts of this proof, one behind the other: UfO, Vp6, Vp7, Vp8, Vp0, Vp1, Vp2, Vp3, Vp9, Vp4. -/
import Derived.Test.YtpbflnfcgcldkaaGreatDoorMt10
import Derived.Test.YtpbflnfcgcldkaaGreatDoorMtFp1
import Derived.Test.YtpbflnfcgcldkaaGreatDoorRows
import Derived.Test.YtpbflnfcgcldkaaGreatDoorMt17
import Derived.LaidMore
import Derived.HandedShaped
import Derived.Lib.LaidTab
import Derived.Stop.LaidErr
import Derived.Stop.Joined
import Derived.Test.YtpbflnfcgcldkaaGreatDoorMt13
import Derived.Test.YtpbflnfcgcldkaaGreatDoorMt15
import Derived.Test.YtpbflnfcgcldkaaGreatDoorMt11
/- What comes in to TopPocketed: formats, pairs, the table of folds. -/
namespace Go.Proofs.YtpbflnfcgcldkaaGreatDoor
open Go.Sx Go.RowKit Go.WideShapes Go.Lib
theorem own : ownKnob Tryz.prog.godebug = none := by kernel_rfl
theorem laidOut : laidOutB Tryz.prog = true := facts_laid
theorem u8_of {x : Int} (h : (Lit.int .u8 x).wf = true) : 0 ≤ x ∧ x ≤ 255 := Take.u8_of h
section
variable {W : World}
end
/-! ### the table of folds -/
end Go.Proofs.YtpbflnfcgcldkaaGreatDoor
/- A press: what it is made of, how it is made and copied, walked. -/
namespace Go.Proofs.YtpbflnfcgcldkaaGreatDoor.Prs
open Go.Sx Go.Proofs Go.RowKit
open Side (eN eN_len eN_one getD_memT sh_trans)
structure Dsc where
  ser : Int
  a : Int
  b : Int
  tim : Int
  hld : Int
  pk : Int
  good : Bool
instance : Inhabited Dsc := ⟨⟨0, 0, 0, 0, 0, 0, false⟩⟩
def eDsc (d : Dsc) : List Value := [I d.ser, I d.a, I d.b, I d.tim, I d.hld, I d.pk, .bool d.good]
abbrev Dsc.val (d : Dsc) : Value := .agg #[I d.ser, I d.a, I d.b, I d.tim, I d.hld, I d.pk, .bool d.good]
abbrev d0 : Dsc := ⟨0, 0, 0, 0, 0, 0, false⟩
theorem eDsc_len (d : Dsc) : (eDsc d).length = 7 := rfl
theorem eDsc_one (d : Dsc) : ∀ u ∈ eDsc d, u.oneCell' = true := fun u h => by
  unfold eDsc at h; simp only [List.mem_cons, List.not_mem_nil, or_false] at h
  rcases h with rfl | rfl | rfl | rfl | rfl | rfl | rfl <;> rfl
structure PS where
  cl : Bool
  lo : Bool
  vlv : Int
  tmp : Int
  hld : Int
  pk : Int
  tim : Int
  a : Int
  b : Int
abbrev PS.val (s : PS) : Value := .agg #[.bool s.cl, .bool s.lo, I s.vlv, I s.tmp, I s.hld, I s.pk, I s.tim, I s.a, I s.b]
abbrev wkC (s : PS) (m : Mch) (A : Option Addr) (n c r : Nat) : List Value :=
  [.bool s.cl, .bool s.lo, I s.vlv, I s.tmp, I s.hld, I s.pk, I s.tim, I s.a, I s.b, I m.room, I m.melt, I m.cool, I m.top, I m.heat, I m.chill, I m.drift, I m.hold, I m.life, .slice A n c, .map (some r)]
abbrev wkB (s : PS) (m : Mch) (A : Option Addr) (n c r : Nat) : Obj := blk (wkC s m A n c r) 175
abbrev kJ (z : Int) : Value := I z
theorem keyJ : KeyOk Tryz.prog 2 kJ := KeyOk.int Tryz.underlying2
theorem zvJ : (Tryz.prog.info? 2).bind (·.zero) = some (kJ 0) := by kernel_rfl
structure Ph where
  b : Nat
  A : Option Addr
  c : Nat
  I : Items
  r : Nat
  ob : Obj
structure PhOk (l : List Dsc) (f : Int → Option Int) (h : Ph) : Prop where
  own : Own 7 47 eDsc l (.slice h.A l.length h.c) h.I
  map : MapIs kJ kJ f h.ob
abbrev Ph.W (h : Ph) (s : PS) (m : Mch) (n : Nat) (G : Items) : Items := (h.b, wkB s m h.A n h.c h.r) :: (h.r, h.ob) :: (h.I ++ G)
theorem setsAllP {l vs : List Value} (h : vs.length = l.length) : setsAt l 0 vs = vs := by
  rw [setsAt_eq _ _ _ (by omega)]; simp [h]
section
variable {w w0 : World} {A : Option Addr} {c g r : Nat} {l : List Dsc} {f : Int → Option Int} {ob : Obj} {G : Items} {s : PS} {m : Mch}
theorem C_CloneD {Ig : Items} (hO : Own 7 47 eDsc l (.slice A l.length c) Ig) (h : RdL w 7 eDsc A l) (hl : l.length ≤ 100000) : Con Tryz.prog 76 [.slice A l.length c] w (fun y : Option Addr × Nat × Items => Own 7 47 eDsc l (.slice y.1 l.length y.2.1) y.2.2) (fun y => .slice y.1 l.length y.2.1) (fun y => y.2.2) := by
  rcases hO with ⟨hv, hl0, _⟩ | ⟨a, c', rest, hv, _⟩
  · subst hl0; cases hv
    refine Ret_of (vs := [_]) hm none' Tryz.func76 rfl Tryz.ntmps76 rfl ?_
    dsimp only [slotsOf]
    refine GE_seq ?_;refine GE_plain (.st 0 .nil) rfl ?_;refine GT_st rfl rfl rfl rfl (V_assign rfl rfl) ?_;refine GT_nil ?_;refine GE_seq ?_;refine GE_seq ?_;refine GE_plain (.st 0 (.st 1 .nil)) rfl ?_;refine GT_st rfl rfl rfl rfl (V_move rfl rfl) ?_;refine GT_st rfl rfl rfl rfl (V_eqlNilT rfl rfl rfl Tryz.underlying36) ?_;refine GT_nil ?_;refine GE_cond_t rfl ?_;refine GE_seq ?_;refine GE_slots (L' := []) trivial ?_;refine GE_plain (.st 0 .nil) rfl ?_;refine GT_st rfl rfl rfl rfl (V_assign rfl rfl) ?_;refine GT_nil ?_;refine GE_ret Tryz.func76 rfl (fun w hw => ?_)
    exact ⟨(none, 0, []), Own.nil, rfl, hw.nil⟩
  · cases hv
    refine Ret_of (vs := [_]) hm none' Tryz.func76 rfl Tryz.ntmps76 rfl ?_
    dsimp only [slotsOf]
    refine GE_seq ?_;refine GE_plain (.st 0 .nil) rfl ?_;refine GT_st rfl rfl rfl rfl (V_assign rfl rfl) ?_;refine GT_nil ?_;refine GE_seq ?_;refine GE_seq ?_;refine GE_plain (.st 0 (.st 1 .nil)) rfl ?_;refine GT_st rfl rfl rfl rfl (V_move rfl rfl) ?_;refine GT_st rfl rfl rfl rfl (V_eqlNilF rfl rfl rfl Tryz.underlying36) ?_;refine GT_nil ?_;refine GE_cond_f rfl ?_;refine GE_skip ?_;refine GE_seq ?_;refine GE_plain (.ld 0 [] (.st 1 (.ld 2 [] (.st 3 .nil)))) rfl ?_;refine GT_buildSlice (z := []) rfl rfl rfl rfl rfl Tryz.underlying36 zc_47 sz_47 (by decide) rfl rfl (fun _ => GR_nil) (fun b5 => ?_)
    have ho5 : Own 7 47 eDsc [] (.slice (some ⟨b5, 0, none⟩) 0 0) [(b5, blk [] 47)] := Own.lit rfl rfl (by decide)
    refine GT_st rfl rfl rfl rfl (V_move rfl rfl) ?_;refine GT_append (enc := eDsc) (l := []) (m := l) rfl rfl rfl rfl rfl rfl rfl ho5 (fun w m => h.sh m) Tryz.underlying36 zc_47 sz_47 ⟨rfl, by decide⟩ by_47 ⟨by simp only [List.length_nil]; omega, by simp only [List.length_nil]; omega⟩ eDsc_len eDsc_one (fun _ _ _ _ => GR_nil) (fun A3 c3 I3 hO3 => ?_)
    rw [List.nil_append] at hO3 ⊢
    refine GT_st rfl rfl rfl rfl (V_assign rfl rfl) ?_;refine GT_nil ?_;refine GE_ret Tryz.func76 rfl (fun w hw => ?_)
    exact ⟨(A3, c3, I3), hO3, rfl, hw.hs (C := cx Tryz.prog hm 0 0 _ none' fun _ _ => True) HS.last⟩
theorem C_MapClone (m0 : SH w0 none' ((r, ob) :: G) w) (hM : MapIs kJ kJ f ob) :
    Ret Tryz.prog 135 [.map (some r)].toArray w fun v w' => ∃ y : Nat × Obj, MapIs kJ kJ f y.2 ∧ v = .map (some y.1) ∧ SH w0 none' ((y.1, y.2) :: (r, ob) :: G) w' := by
  refine Ret_ofH (vs := [_]) hm none' Tryz.func135 rfl Tryz.ntmps135 rfl m0 ?_
  dsimp only [slotsOf]
  refine GE_seq ?_;refine GE_plain (.st 0 .nil) rfl ?_;refine GT_st rfl rfl rfl rfl (V_assign rfl rfl) ?_;refine GT_nil ?_;refine GE_seq ?_;refine GE_seq ?_;refine GE_plain (.st 0 (.st 1 .nil)) rfl ?_;refine GT_st rfl rfl rfl rfl (V_move rfl rfl) ?_;refine GT_st rfl rfl rfl rfl (V_eqlMapNil rfl rfl rfl Tryz.underlying171) ?_;refine GT_nil ?_;refine GE_cond_f rfl ?_;refine GE_skip ?_;refine GE_seq ?_;refine GE_plain (.st 0 (.st 1 (.ld 2 [] (.st 3 (.st 4 .nil))))) rfl ?_;refine GT_st rfl rfl rfl rfl (V_move rfl rfl) ?_;refine GT_st rfl rfl rfl rfl (V_mkIfaceM rfl rfl Tryz.underlying171) ?_;refine GT_mapClone hM rfl rfl rfl rfl rfl rfl rfl Tryz.func195 rfl rfl rfl rfl (fun _ _ => GR_nil) (fun b7 ob7 hM7 => ?_)
  refine GT_st rfl rfl rfl rfl (V_typeAssertM rfl rfl Tryz.underlying171) ?_;refine GT_st rfl rfl rfl rfl (V_assign rfl rfl) ?_;refine GT_nil ?_;refine GE_ret Tryz.func135 rfl (fun w hw => ?_)
  exact ⟨(b7, ob7), hM7, rfl, hw⟩
set_option maxRecDepth 20000 in
theorem C_copy {h : Ph} (m0 : SH w0 none' (h.W s m l.length G) w) (hh : PhOk l f h) (hl : l.length ≤ 100000) :
    Ret Tryz.prog 73 [ptr h.b 0].toArray w fun v w' => ∃ y : Ph, PhOk l f y ∧ v = ptr y.b 0 ∧ SH w0 none' (y.W s m l.length (h.W s m l.length G)) w' := by
  refine Ret_ofH (vs := [_]) hm none' Tryz.func73 rfl Tryz.ntmps73 rfl m0 ?_
  dsimp only [slotsOf]
  refine GE_seq ?_;refine GE_plain (.st 0 .nil) rfl ?_;refine GT_st rfl rfl rfl rfl (V_assign rfl rfl) ?_;refine GT_nil ?_;refine GE_seq ?_;refine GE_plain (.st 0 (.st 1 (.st 2 (.ld 3 [] (.ld 4 [] .nil))))) rfl ?_;refine GT_st rfl rfl rfl rfl (V_move rfl rfl) ?_;refine GT_st rfl rfl rfl rfl (V_nilCheck rfl rfl) ?_;refine GT_st rfl rfl rfl rfl (V_loadN (vs := [_, _, _, _, _, _, _, _, _, _, _, _, _, _, _, _, _, _, _, _]) rfl rfl ag_175 sz_175 rfl (CellsAt.item rfl)) ?_;refine GT_alloc rfl rfl rfl rfl rfl zc_175 (fun _ => GR_nil) (fun b3 => ?_)
  refine GT_store (vs := wkC s m h.A l.length h.c h.r) (l' := wkC s m h.A l.length h.c h.r) rfl rfl rfl rfl rfl rfl rfl sz_175 rfl rfl (by exact Nat.le_of_ble_eq_true rfl) (by exact setsAllP rfl) (GR_nil) ?_;refine GT_nil ?_;refine GE_seq ?_;refine GE_slots (L' := [(0, _), (3, _)]) ⟨rfl, rfl, trivial⟩ ?_;refine GE_drawn (.st 0 (.st 1 (.st 2 (.st 3 (.st 5 (.st 6 (.st 7 (.st 8 (.ld 4 [5, 6, 7, 8] (.ld 9 [] (.st 10 (.ld 11 [] (.st 12 (.ld 13 [] .nil)))))))))))))) [4, 9, 11, 13] (by decide +kernel) ?_;refine GT_st rfl rfl rfl rfl (V_move rfl rfl) ?_;refine GT_st rfl rfl rfl rfl (V_nilCheck rfl rfl) ?_;refine GT_st rfl rfl rfl rfl (V_field rfl rfl fo_175_2) ?_;refine GT_st rfl rfl rfl rfl (V_load rfl rfl ag_36 (CellAt.item rfl)) ?_;refine GT_st rfl rfl rfl rfl (V_move rfl rfl) ?_;refine GT_st rfl rfl rfl rfl (V_nilCheck rfl rfl) ?_;refine GT_st rfl rfl rfl rfl (V_field rfl rfl fo_175_3) ?_;refine GT_st rfl rfl rfl rfl (V_load rfl rfl ag_171 (CellAt.item rfl)) ?_;refine GT_call rfl rfl rfl rfl rfl rfl rfl rfl rn_76 (fun w hw => C_CloneD hh.own (hh.own.rd eDsc_len (hw.hs (C := cx Tryz.prog hm 0 0 w0 none' fun _ _ => True) HS.last)) hl) (fun _ _ => GR_cons rfl rfl rfl rfl (V_move rfl rfl) (GR_cons rfl rfl rfl rfl ((by first | exact V_nilCheck rfl rfl | exact V_nilCheck_func rfl rfl | exact V_nilCheck_yield rfl rfl | exact V_nilCheck_iface rfl rfl)) (GR_cons rfl rfl rfl rfl ((by first | exact V_field rfl rfl fo_175_3 | exact V_fieldA rfl rfl fo_175_3)) (GR_cons rfl rfl rfl rfl (V_load rfl rfl ag_171 (CellAt.item rfl)) (GR_nil))))) (fun yd hyd => ?_)
  refine GT_callX rfl rfl rfl rfl rfl rfl rfl rfl rn_135 (fun w m9 => C_MapClone (r := h.r) (ob := h.ob) (G := yd.2.2 ++ ((b3, wkB s m h.A l.length h.c h.r) :: (h.b, wkB s m h.A l.length h.c h.r) :: (h.I ++ G))) (m9.hs (C := cx Tryz.prog hm 0 0 w0 none' fun _ _ => True) (HS.cons rfl (HS.chunk (HS.cons rfl (HS.cons rfl (HS.chunk HS.last)))))) hh.map) (fun _ _ => GR_nil) (fun ym hym => ?_)
  refine GT_st rfl rfl rfl rfl (V_field rfl rfl fo_175_2) ?_;refine GT_store (vs := [_]) (l' := [_, _, _, _, _, _, _, _, _, _, _, _, _, _, _, _, _, _, _, _]) rfl rfl rfl rfl rfl rfl rfl sz_36 rfl rfl (Nat.le_of_ble_eq_true rfl) rfl (GR_nil) ?_;refine GT_st rfl rfl rfl rfl (V_field rfl rfl fo_175_3) ?_;refine GT_store (vs := [_]) (l' := [_, _, _, _, _, _, _, _, _, _, _, _, _, _, _, _, _, _, _, _]) rfl rfl rfl rfl rfl rfl rfl sz_171 rfl rfl (Nat.le_of_ble_eq_true rfl) rfl (GR_nil) ?_;refine GT_nil ?_;refine GE_seq ?_;refine GE_slots (L' := [(3, _)]) ⟨rfl, trivial⟩ ?_;refine GE_plain (.st 0 .nil) rfl ?_;refine GT_st rfl rfl rfl rfl (V_assign rfl rfl) ?_;refine GT_nil ?_;refine GE_ret Tryz.func73 rfl (fun w hw => ?_)
  exact ⟨⟨b3, yd.1, yd.2.1, yd.2.2, ym.1, ym.2⟩, ⟨hyd, hym⟩, rfl, hw.hs (C := cx Tryz.prog hm 0 0 w0 none' fun _ _ => True) (HS.cons rfl (HS.cons rfl (HS.chunk (HS.cons rfl (HS.cons rfl (HS.chunk HS.last))))))⟩
set_option maxRecDepth 20000 in
theorem C_New (hm0 : m.Ok) : Con Tryz.prog 24 [m.val] w (fun y : Nat × Ph => PhOk [] (fun _ => none) y.2) (fun y => .tuple #[ptr y.1 0, I 0]) (fun y => (y.1, blk [ptr y.2.b 0] 177) :: y.2.W ⟨false, false, 0, m.room, 0, 0, 0, 0, 0⟩ m 0 []) := by
  refine Ret_of (vs := [_]) hm none' Tryz.func24 rfl Tryz.ntmps24 rfl ?_
  dsimp only [slotsOf]
  refine GE_seq ?_;refine GE_plain (.ld 0 [] (.st 1 (.st 2 .nil))) rfl ?_;refine GT_box (z := [_, _, _, _, _, _, _, _, _]) rfl rfl rfl rfl rfl rfl rfl (fun _ => GR_nil) (fun b1 => ?_)
  refine GT_st rfl rfl rfl rfl (V_assign rfl rfl) ?_;refine GT_st rfl rfl rfl rfl (V_assign rfl rfl) ?_;refine GT_nil ?_;refine GE_seq ?_;refine GE_seq ?_;refine GE_plain (.st 0 (.ld 1 [] (.st 2 .nil))) rfl ?_;refine GT_st rfl rfl rfl rfl (V_loadN (vs := [_, _, _, _, _, _, _, _, _]) rfl rfl ag_58 sz_58 rfl (CellsAt.item rfl)) ?_;refine GT_call0 rfl rfl rfl rfl rfl rfl rfl rfl rn_66 (fun w hw => C_Check hm0) (GR_nil) ?_;refine GT_st rfl rfl rfl rfl (V_assign rfl rfl) ?_;refine GT_nil ?_;refine GE_seq ?_;refine GE_slots (L' := [(1, _), (4, _)]) ⟨rfl, rfl, trivial⟩ ?_;refine GE_plain (.st 0 (.st 1 .nil)) rfl ?_;refine GT_st rfl rfl rfl rfl (V_move rfl rfl) ?_;refine GT_st rfl rfl rfl rfl (V_isF (V_neq rfl rfl rfl) (fun q => q rfl)) ?_;refine GT_nil ?_;refine GE_cond_f rfl ?_;refine GE_skip ?_;refine GE_seq ?_;refine GE_plain (.st 0 (.ld 1 [] (.st 2 (.ld 3 [] (.st 4 .nil))))) rfl ?_;refine GT_st rfl rfl rfl rfl (V_loadN (vs := [_, _, _, _, _, _, _, _, _]) rfl rfl ag_58 sz_58 rfl (CellsAt.item rfl)) ?_;refine GT_makeMapM kJ kJ rfl rfl rfl rfl rfl (fun _ _ => GR_nil) (fun b12 ob12 hM12 => ?_)
  refine GT_st rfl rfl rfl rfl (V_build (vs := [_, _, _, _, _, _, _, _, _, _, _, _, _, _, _, _, _, _, _, _]) rfl rfl zc_175 pl_175 sa_175 rfl) ?_;refine GT_box (z := [_, _, _, _, _, _, _, _, _, _, _, _, _, _, _, _, _, _, _, _]) rfl rfl rfl rfl rfl rfl rfl (fun _ => GR_nil) (fun b14 => ?_)
  refine GT_st rfl rfl rfl rfl (V_assign rfl rfl) ?_;refine GT_nil ?_;refine GE_seq ?_;refine GE_slots (L' := [(1, _), (5, _)]) ⟨rfl, rfl, trivial⟩ ?_;refine GE_plain (.st 0 (.st 1 (.st 2 (.st 3 (.st 4 (.st 5 (.ld 6 [] .nil))))))) rfl ?_;refine GT_st rfl rfl rfl rfl (V_move rfl rfl) ?_;refine GT_st rfl rfl rfl rfl (V_field rfl rfl fo_58_0) ?_;refine GT_st rfl rfl rfl rfl (V_load rfl rfl ag_2 (CellAt.item rfl)) ?_;refine GT_st rfl rfl rfl rfl (V_nilCheck rfl rfl) ?_;refine GT_st rfl rfl rfl rfl (V_field rfl rfl fo_175_0) ?_;refine GT_st rfl rfl rfl rfl (V_field rfl rfl fo_173_3) ?_;refine GT_store (vs := [_]) (l' := [_, _, _, _, _, _, _, _, _, _, _, _, _, _, _, _, _, _, _, _]) rfl rfl rfl rfl rfl rfl rfl sz_2 rfl rfl (Nat.le_of_ble_eq_true rfl) rfl (GR_nil) ?_;refine GT_nil ?_;refine GE_seq ?_;refine GE_slots (L' := [(5, _)]) ⟨rfl, trivial⟩ ?_;refine GE_plain (.st 0 (.st 1 (.ld 2 [] (.st 3 (.st 4 .nil))))) rfl ?_;refine GT_st rfl rfl rfl rfl (V_move rfl rfl) ?_;refine GT_st rfl rfl rfl rfl (V_build (vs := [_]) rfl rfl zc_177 pl_177 sa_177 rfl) ?_;refine GT_box (z := [_]) rfl rfl rfl rfl rfl rfl rfl (fun _ => GR_nil) (fun b23 => ?_)
  refine GT_st rfl rfl rfl rfl (V_assign rfl rfl) ?_;refine GT_st rfl rfl rfl rfl (V_assign rfl rfl) ?_;refine GT_nil ?_;refine GE_ret Tryz.func24 ⟨_, _, rfl, rfl, rfl⟩ (fun w hw => ?_)
  exact ⟨(b23, ⟨b14, none, 0, [], b12, ob12⟩), ⟨Own.nil, hM12⟩, rfl, hw.hs (C := cx Tryz.prog hm 0 0 _ none' fun _ _ => True) (HS.cons rfl (HS.cons rfl (HS.cons rfl HS.nil)))⟩
end
end Go.Proofs.YtpbflnfcgcldkaaGreatDoor.Prs
/- What is done with a press, walked. -/
namespace Go.Proofs.YtpbflnfcgcldkaaGreatDoor.Prs
open Go.Sx Go.Proofs Go.RowKit
open Side (eN eN_len eN_one getD_memT sh_trans)
abbrev us (f : Int → Option Int) (k : Int) : Int := (f k).getD 0
abbrev bump (f : Int → Option Int) (k : Int) : Int → Option Int := upd f k (some (us f k + 1))
def ActC (fi : Nat) (av : Value) (m : Mch) (s : PS) (l : List Dsc) (f : Int → Option Int) (e : Int) (dv : Dsc) (s' : PS) (l' : List Dsc) (f' : Int → Option Int) : Prop :=
  ∀ (w0 w : World) (h : Ph) (G : Items), SH w0 none' (h.W s m l.length G) w → PhOk l f h →
    Ret Tryz.prog fi [ptr h.b 0, av].toArray w fun v w' => ∃ y : Option Addr × Nat × Items × Obj, PhOk l' f' ⟨h.b, y.1, y.2.1, y.2.2.1, h.r, y.2.2.2⟩ ∧ v = .tuple #[dv.val, I e] ∧ SH w0 none' ((h.b, wkB s' m y.1 l'.length y.2.1 h.r) :: (h.r, y.2.2.2) :: (y.2.2.1 ++ G)) w'
section
variable {w w0 : World} {l : List Dsc} {f : Int → Option Int} {G : Items} {s : PS} {m : Mch} {h : Ph} {v t hd p ti a b x y : Int}
theorem C_old (m0 : SH w0 none' (h.W s m l.length G) w) (hh : PhOk l f h) : Ret Tryz.prog 134 [ptr h.b 0, I x, I y].toArray w fun r w' => ∃ _ : Unit, True ∧ r = .bool (decide (m.life ≤ max (us f x) (us f y))) ∧ SH w0 none' (h.W s m l.length G) w' := by
  refine Ret_ofH (vs := [_, _, _]) hm none' Tryz.func134 rfl Tryz.ntmps134 rfl m0 ?_
  dsimp only [slotsOf]
  refine GE_seq ?_;refine GE_plain (.st 0 .nil) rfl ?_;refine GT_st rfl rfl rfl rfl (V_assign rfl rfl) ?_;refine GT_nil ?_;refine GE_seq ?_;refine GE_drawn (.st 0 (.st 1 (.st 2 (.st 3 (.st 4 (.st 5 (.st 6 (.st 7 (.st 8 (.st 9 (.st 10 (.st 11 (.st 12 (.st 13 (.st 14 (.st 15 (.st 16 (.st 17 (.st 18 (.st 19 .nil)))))))))))))))))))) [] (by decide +kernel) ?_;refine GT_st rfl rfl rfl rfl (V_move rfl rfl) ?_;refine GT_st rfl rfl rfl rfl (V_nilCheck rfl rfl) ?_;refine GT_st rfl rfl rfl rfl (V_field rfl rfl fo_175_3) ?_;refine GT_st rfl rfl rfl rfl (V_load rfl rfl ag_171 (CellAt.item rfl)) ?_;refine GT_st rfl rfl rfl rfl (V_move rfl rfl) ?_;refine GT_st rfl rfl rfl rfl (V_lookupM (q := x) (z := (0 : Int)) hh.map keyJ rfl rfl rfl rfl Tryz.underlying171 zvJ) ?_;refine GT_st rfl rfl rfl rfl (V_move rfl rfl) ?_;refine GT_st rfl rfl rfl rfl (V_nilCheck rfl rfl) ?_;refine GT_st rfl rfl rfl rfl (V_field rfl rfl fo_175_3) ?_;refine GT_st rfl rfl rfl rfl (V_load rfl rfl ag_171 (CellAt.item rfl)) ?_;refine GT_st rfl rfl rfl rfl (V_move rfl rfl) ?_;refine GT_st rfl rfl rfl rfl (V_lookupM (q := y) (z := (0 : Int)) hh.map keyJ rfl rfl rfl rfl Tryz.underlying171 zvJ) ?_;refine GT_st rfl rfl rfl rfl (V_max rfl rfl rfl) ?_;refine GT_st rfl rfl rfl rfl (V_move rfl rfl) ?_;refine GT_st rfl rfl rfl rfl (V_nilCheck rfl rfl) ?_;refine GT_st rfl rfl rfl rfl (V_field rfl rfl fo_175_1) ?_;refine GT_st rfl rfl rfl rfl (V_field rfl rfl fo_58_8) ?_;refine GT_st rfl rfl rfl rfl (V_load rfl rfl ag_2 (CellAt.item rfl)) ?_;refine GT_st rfl rfl rfl rfl (V_geq rfl rfl rfl) ?_;refine GT_st rfl rfl rfl rfl (V_assign rfl rfl) ?_;refine GT_nil ?_;refine GE_ret Tryz.func134 rfl (fun w hw => ?_)
  exact ⟨(), trivial, rfl, hw⟩
set_option maxRecDepth 20000 in
theorem A_mount (hx : 1 ≤ x ∧ x ≤ 1073741824) (hy : 1 ≤ y ∧ y ≤ 1073741824) (hne : x ≠ y) :
    ActC 67 (.agg #[I 1, I x, I y]) m ⟨false, false, v, t, hd, p, ti, a, b⟩ l f (if m.life ≤ max (us f x) (us f y) then 13 else 0) d0 ⟨false, false, v, t, hd, p, ti, x, y⟩ l f := by
  intro w0 w h G m0 hh
  dsimp only [Ph.W, wkB, wkC] at m0
  refine Ret_ofH (vs := [_, _]) hm none' Tryz.func67 rfl Tryz.ntmps67 rfl m0 ?_
  dsimp only [slotsOf]
  refine GE_seq ?_;refine GE_plain (.ld 0 [] (.ld 1 [] (.st 2 .nil))) rfl ?_;refine GT_box (z := [_, _, _]) rfl rfl rfl rfl rfl rfl rfl (fun _ => GR_nil) (fun b3 => ?_)
  refine GT_alloc rfl rfl rfl rfl rfl zc_47 (fun _ => GR_nil) (fun b4 => ?_)
  refine GT_st rfl rfl rfl rfl (V_assign rfl rfl) ?_;refine GT_nil ?_;refine GE_seq ?_;refine GE_block ?_;refine GE_seq ?_;refine GE_plain (.st 0 (.st 1 (.ld 2 [] (.st 3 (.st 4 (.st 5 (.ld 6 [] (.st 7 (.st 8 .nil))))))))) rfl ?_;refine GT_st rfl rfl rfl rfl (V_field rfl rfl fo_71_1) ?_;refine GT_st rfl rfl rfl rfl (V_load rfl rfl ag_2 (CellAt.item rfl)) ?_;refine GT_call0 rfl rfl rfl rfl rfl rfl rfl rfl rn_64 (fun w hw => C_out hx) (GR_nil) ?_;refine GT_st rfl rfl rfl rfl (V_move rfl rfl) ?_;refine GT_st_g rfl rfl rfl rfl rfl rfl rfl (V_field rfl rfl fo_71_2) ?_;refine GT_st_g rfl rfl rfl rfl rfl rfl rfl (V_load rfl rfl ag_2 (CellAt.item rfl)) ?_;refine GT_call0_g rfl rfl rfl rfl rfl rfl rfl rfl rfl rfl rfl rn_64 (fun w hw => C_out hy) (GR_nil) ?_;refine GT_st rfl rfl rfl rfl (V_pick_f rfl rfl rfl) ?_;refine GT_st rfl rfl rfl rfl (V_assign rfl rfl) ?_;refine GT_nil ?_;refine GE_cond_f rfl ?_;refine GE_seq ?_;refine GE_slots (L' := [(0, _), (3, _), (4, _), (5, _)]) ⟨rfl, rfl, rfl, rfl, trivial⟩ ?_;refine GE_plain (.st 0 (.st 1 (.st 2 (.st 3 (.st 4 (.st 5 .nil)))))) rfl ?_;refine GT_st rfl rfl rfl rfl (V_field rfl rfl fo_71_1) ?_;refine GT_st rfl rfl rfl rfl (V_load rfl rfl ag_2 (CellAt.item rfl)) ?_;refine GT_st rfl rfl rfl rfl (V_field rfl rfl fo_71_2) ?_;refine GT_st rfl rfl rfl rfl (V_load rfl rfl ag_2 (CellAt.item rfl)) ?_;refine GT_st rfl rfl rfl rfl (V_isF (V_eql rfl rfl rfl) hne) ?_;refine GT_st rfl rfl rfl rfl (V_assign rfl rfl) ?_;refine GT_nil ?_;refine GE_cond_f rfl ?_;refine GE_seq ?_;refine GE_slots (L' := [(0, _), (3, _), (4, _), (5, _)]) ⟨rfl, rfl, rfl, rfl, trivial⟩ ?_;refine GE_plain (.st 0 (.st 1 (.st 2 (.st 3 (.st 4 (.st 5 .nil)))))) rfl ?_;refine GT_st rfl rfl rfl rfl (V_move rfl rfl) ?_;refine GT_st rfl rfl rfl rfl (V_nilCheck rfl rfl) ?_
  refine GT_st rfl rfl rfl rfl (V_field rfl rfl fo_175_0) ?_;refine GT_st rfl rfl rfl rfl (V_field rfl rfl fo_173_0) ?_;refine GT_st rfl rfl rfl rfl (V_load rfl rfl ag_4 (CellAt.item rfl)) ?_;refine GT_st rfl rfl rfl rfl (V_assign rfl rfl) ?_;refine GT_nil ?_;refine GE_cond_f rfl ?_;refine GE_seq ?_;refine GE_slots (L' := [(0, _), (3, _), (4, _), (5, _)]) ⟨rfl, rfl, rfl, rfl, trivial⟩ ?_;refine GE_plain (.st 0 (.st 1 (.st 2 (.st 3 (.st 4 (.st 5 .nil)))))) rfl ?_;refine GT_st rfl rfl rfl rfl (V_move rfl rfl) ?_;refine GT_st rfl rfl rfl rfl (V_nilCheck rfl rfl) ?_;refine GT_st rfl rfl rfl rfl (V_field rfl rfl fo_175_0) ?_;refine GT_st rfl rfl rfl rfl (V_field rfl rfl fo_173_1) ?_;refine GT_st rfl rfl rfl rfl (V_load rfl rfl ag_4 (CellAt.item rfl)) ?_;refine GT_st rfl rfl rfl rfl (V_assign rfl rfl) ?_;refine GT_nil ?_;refine GE_cond_f rfl ?_;refine GE_seq ?_;refine GE_slots (L' := [(0, _), (3, _), (4, _), (5, _)]) ⟨rfl, rfl, rfl, rfl, trivial⟩ ?_;refine GE_plain (.st 0 (.st 1 (.st 2 (.st 3 (.st 4 (.ld 5 [] (.st 6 .nil))))))) rfl ?_;refine GT_st rfl rfl rfl rfl (V_move rfl rfl) ?_;refine GT_st rfl rfl rfl rfl (V_field rfl rfl fo_71_1) ?_;refine GT_st rfl rfl rfl rfl (V_load rfl rfl ag_2 (CellAt.item rfl)) ?_;refine GT_st rfl rfl rfl rfl (V_field rfl rfl fo_71_2) ?_;refine GT_st rfl rfl rfl rfl (V_load rfl rfl ag_2 (CellAt.item rfl)) ?_;refine GT_callX rfl rfl rfl rfl rfl rfl rfl rfl rn_134 (fun w m9 => C_old (s := ⟨false, false, v, t, hd, p, ti, a, b⟩) (m := m) (l := l) (f := f) (h := h) (G := (b4, _) :: (b3, _) :: G) (m9.hs (C := cx Tryz.prog hm 0 0 w0 none' fun _ _ => True) (HS.cons rfl (HS.cons rfl (HS.chunk (HS.cons rfl (HS.cons rfl HS.last)))))) hh) (fun _ _ => GR_nil) (fun _ _ => ?_)
  refine GT_st rfl rfl rfl rfl (V_assign rfl rfl) ?_;refine GT_nil ?_;refine GE_cond rfl (fun q1 => ?_) (fun q1 => ?_)
  · refine GE_slots (L' := [(0, _), (3, _), (4, _)]) ⟨rfl, rfl, rfl, trivial⟩ ?_;refine GE_plain (.st 0 .nil) rfl ?_;refine GT_st rfl rfl rfl rfl (V_assign rfl rfl) ?_;refine GT_nil ?_;refine GE_inBlock ?_;refine GE_seq ?_;refine GE_drawn (.st 0 (.st 1 (.st 2 (.st 3 (.st 4 (.st 5 (.st 6 (.st 7 (.st 8 (.ld 9 [1, 4, 5] (.st 10 (.st 11 (.st 12 (.ld 13 [] .nil)))))))))))))) [9, 13] (by decide +kernel) ?_;refine GT_st rfl rfl rfl rfl (V_move rfl rfl) ?_;refine GT_st rfl rfl rfl rfl (V_move rfl rfl) ?_;refine GT_st rfl rfl rfl rfl (V_field rfl rfl fo_71_1) ?_;refine GT_st rfl rfl rfl rfl (V_load rfl rfl ag_2 (CellAt.item rfl)) ?_;refine GT_st rfl rfl rfl rfl (V_field rfl rfl fo_71_2) ?_;refine GT_st rfl rfl rfl rfl (V_load rfl rfl ag_2 (CellAt.item rfl)) ?_;refine GT_st rfl rfl rfl rfl (V_nilCheck rfl rfl) ?_;refine GT_st rfl rfl rfl rfl (V_field rfl rfl fo_175_0) ?_;refine GT_st rfl rfl rfl rfl (V_field rfl rfl fo_173_7) ?_;refine GT_store (vs := [_]) rfl rfl rfl rfl rfl rfl rfl sz_2 rfl rfl (Nat.le_of_ble_eq_true rfl) rfl (GR_cons rfl rfl rfl rfl (V_move rfl rfl) (GR_cons rfl rfl rfl rfl ((by first | exact V_field rfl rfl fo_71_2 | exact V_fieldA rfl rfl fo_71_2)) (GR_cons rfl rfl rfl rfl (V_load rfl rfl ag_2 (CellAt.item rfl)) (GR_nil)))) ?_;refine GT_st rfl rfl rfl rfl (V_nilCheck rfl rfl) ?_;refine GT_st rfl rfl rfl rfl (V_field rfl rfl fo_175_0) ?_;refine GT_st rfl rfl rfl rfl (V_field rfl rfl fo_173_8) ?_;refine GT_store (vs := [_]) rfl rfl rfl rfl rfl rfl rfl sz_2 rfl rfl (Nat.le_of_ble_eq_true rfl) rfl (GR_nil) ?_;refine GT_nil ?_;refine GE_seq ?_;refine GE_slots (L' := [(4, _), (5, _)]) ⟨rfl, rfl, trivial⟩ ?_;refine GE_plain (.st 0 (.st 1 (.ld 2 [] (.ld 3 [] .nil)))) rfl ?_
    refine GT_st rfl rfl rfl rfl (V_loadN (vs := [_, _, _, _, _, _, _]) rfl rfl ag_47 sz_47 rfl (CellsAt.item rfl)) ?_;refine GT_st rfl rfl rfl rfl (V_move rfl rfl) ?_;refine GT_store (vs := [_, _, _, _, _, _, _]) (l' := [_, _, _, _, _, _, _]) rfl rfl rfl rfl rfl rfl rfl sz_47 rfl rfl (Nat.le_of_ble_eq_true rfl) rfl (GR_nil) ?_;refine GT_ldv rfl rfl rfl rfl rfl (V_assign rfl rfl) (GR_nil) ?_;refine GT_nil ?_;refine GE_ret Tryz.func67 ⟨_, _, ⟨_, rfl, fun w m => run_loadVar_agg (vs := [_, _, _, _, _, _, _]) ag_47 sz_47 rfl (fun j v hj => CellsAt.item rfl j v hj w m)⟩, rfl, rfl⟩ (fun w hw => ?_)
    first | exact ⟨(h.A, h.c, h.I, h.ob), hh, by rw [if_pos q1], hw.hs (C := cx Tryz.prog hm 0 0 w0 none' fun _ _ => True) (HS.cons rfl (HS.cons rfl (HS.chunk HS.last)))⟩ | exact ⟨(h.A, h.c, h.I, h.ob), hh, by rw [if_neg q1], hw.hs (C := cx Tryz.prog hm 0 0 w0 none' fun _ _ => True) (HS.cons rfl (HS.cons rfl (HS.chunk HS.last)))⟩
  · refine GE_skip ?_;refine GE_inBlock ?_;refine GE_seq ?_;refine GE_slots (L' := [(0, _), (3, _), (4, _), (5, _)]) ⟨rfl, rfl, rfl, rfl, trivial⟩ ?_;refine GE_drawn (.st 0 (.st 1 (.st 2 (.st 3 (.st 4 (.st 5 (.st 6 (.st 7 (.st 8 (.ld 9 [1, 4, 5] (.st 10 (.st 11 (.st 12 (.ld 13 [] .nil)))))))))))))) [9, 13] (by decide +kernel) ?_;refine GT_st rfl rfl rfl rfl (V_move rfl rfl) ?_;refine GT_st rfl rfl rfl rfl (V_move rfl rfl) ?_;refine GT_st rfl rfl rfl rfl (V_field rfl rfl fo_71_1) ?_;refine GT_st rfl rfl rfl rfl (V_load rfl rfl ag_2 (CellAt.item rfl)) ?_;refine GT_st rfl rfl rfl rfl (V_field rfl rfl fo_71_2) ?_;refine GT_st rfl rfl rfl rfl (V_load rfl rfl ag_2 (CellAt.item rfl)) ?_;refine GT_st rfl rfl rfl rfl (V_nilCheck rfl rfl) ?_;refine GT_st rfl rfl rfl rfl (V_field rfl rfl fo_175_0) ?_;refine GT_st rfl rfl rfl rfl (V_field rfl rfl fo_173_7) ?_;refine GT_store (vs := [_]) rfl rfl rfl rfl rfl rfl rfl sz_2 rfl rfl (Nat.le_of_ble_eq_true rfl) rfl (GR_cons rfl rfl rfl rfl (V_move rfl rfl) (GR_cons rfl rfl rfl rfl ((by first | exact V_field rfl rfl fo_71_2 | exact V_fieldA rfl rfl fo_71_2)) (GR_cons rfl rfl rfl rfl (V_load rfl rfl ag_2 (CellAt.item rfl)) (GR_nil)))) ?_;refine GT_st rfl rfl rfl rfl (V_nilCheck rfl rfl) ?_;refine GT_st rfl rfl rfl rfl (V_field rfl rfl fo_175_0) ?_;refine GT_st rfl rfl rfl rfl (V_field rfl rfl fo_173_8) ?_;refine GT_store (vs := [_]) rfl rfl rfl rfl rfl rfl rfl sz_2 rfl rfl (Nat.le_of_ble_eq_true rfl) rfl (GR_nil) ?_;refine GT_nil ?_;refine GE_seq ?_;refine GE_slots (L' := [(4, _), (5, _)]) ⟨rfl, rfl, trivial⟩ ?_;refine GE_plain (.st 0 (.st 1 (.ld 2 [] (.ld 3 [] .nil)))) rfl ?_;refine GT_st rfl rfl rfl rfl (V_loadN (vs := [_, _, _, _, _, _, _]) rfl rfl ag_47 sz_47 rfl (CellsAt.item rfl)) ?_;refine GT_st rfl rfl rfl rfl (V_move rfl rfl) ?_
    refine GT_store (vs := [_, _, _, _, _, _, _]) (l' := [_, _, _, _, _, _, _]) rfl rfl rfl rfl rfl rfl rfl sz_47 rfl rfl (Nat.le_of_ble_eq_true rfl) rfl (GR_nil) ?_;refine GT_ldv rfl rfl rfl rfl rfl (V_assign rfl rfl) (GR_nil) ?_;refine GT_nil ?_;refine GE_ret Tryz.func67 ⟨_, _, ⟨_, rfl, fun w m => run_loadVar_agg (vs := [_, _, _, _, _, _, _]) ag_47 sz_47 rfl (fun j v hj => CellsAt.item rfl j v hj w m)⟩, rfl, rfl⟩ (fun w hw => ?_)
    first | exact ⟨(h.A, h.c, h.I, h.ob), hh, by rw [if_pos q1], hw.hs (C := cx Tryz.prog hm 0 0 w0 none' fun _ _ => True) (HS.cons rfl (HS.cons rfl (HS.chunk HS.last)))⟩ | exact ⟨(h.A, h.c, h.I, h.ob), hh, by rw [if_neg q1], hw.hs (C := cx Tryz.prog hm 0 0 w0 none' fun _ _ => True) (HS.cons rfl (HS.cons rfl (HS.chunk HS.last)))⟩
theorem A_load (h0 : a ≠ 0) (hl : l.length < 1000) (hu : max (us f a) (us f b) < m.life) :
    ActC 68 (.agg #[I 2, I x, I y]) m ⟨false, false, v, t, hd, p, ti, a, b⟩ l f 0 d0 ⟨false, true, v, t, hd, p, ti, a, b⟩ l f := by
  intro w0 w h G m0 hh
  dsimp only [Ph.W, wkB, wkC] at m0
  refine Ret_ofH (vs := [_, _]) hm none' Tryz.func68 rfl Tryz.ntmps68 rfl m0 ?_
  dsimp only [slotsOf]
  refine GE_seq ?_;refine GE_plain (.ld 0 [] (.ld 1 [] (.st 2 .nil))) rfl ?_;refine GT_box (z := [_, _, _]) rfl rfl rfl rfl rfl rfl rfl (fun _ => GR_nil) (fun b3 => ?_)
  refine GT_alloc rfl rfl rfl rfl rfl zc_47 (fun _ => GR_nil) (fun b4 => ?_)
  refine GT_st rfl rfl rfl rfl (V_assign rfl rfl) ?_;refine GT_nil ?_;refine GE_seq ?_;refine GE_block ?_;refine GE_seq ?_;refine GE_plain (.st 0 (.st 1 (.st 2 (.st 3 (.st 4 (.st 5 .nil)))))) rfl ?_;refine GT_st rfl rfl rfl rfl (V_move rfl rfl) ?_;refine GT_st rfl rfl rfl rfl (V_nilCheck rfl rfl) ?_;refine GT_st rfl rfl rfl rfl (V_field rfl rfl fo_175_0) ?_;refine GT_st rfl rfl rfl rfl (V_field rfl rfl fo_173_0) ?_;refine GT_st rfl rfl rfl rfl (V_load rfl rfl ag_4 (CellAt.item rfl)) ?_;refine GT_st rfl rfl rfl rfl (V_assign rfl rfl) ?_;refine GT_nil ?_;refine GE_cond_f rfl ?_;refine GE_seq ?_;refine GE_slots (L' := [(0, _), (4, _), (5, _)]) ⟨rfl, rfl, rfl, trivial⟩ ?_;refine GE_plain (.st 0 (.st 1 (.st 2 (.st 3 (.st 4 (.st 5 (.st 6 (.st 7 (.st 8 (.st 9 (.st 10 (.st 11 (.st 12 (.st 13 .nil)))))))))))))) rfl ?_;refine GT_st rfl rfl rfl rfl (V_move rfl rfl) ?_;refine GT_st rfl rfl rfl rfl (V_nilCheck rfl rfl) ?_;refine GT_st rfl rfl rfl rfl (V_field rfl rfl fo_175_0) ?_;refine GT_st rfl rfl rfl rfl (V_field rfl rfl fo_173_1) ?_;refine GT_st rfl rfl rfl rfl (V_load rfl rfl ag_4 (CellAt.item rfl)) ?_;refine GT_st rfl rfl rfl rfl (V_move rfl rfl) ?_;refine GT_st_g rfl rfl rfl rfl rfl rfl rfl (V_move rfl rfl) ?_;refine GT_st_g rfl rfl rfl rfl rfl rfl rfl (V_nilCheck rfl rfl) ?_;refine GT_st_g rfl rfl rfl rfl rfl rfl rfl (V_field rfl rfl fo_175_0) ?_;refine GT_st_g rfl rfl rfl rfl rfl rfl rfl (V_field rfl rfl fo_173_7) ?_;refine GT_st_g rfl rfl rfl rfl rfl rfl rfl (V_load rfl rfl ag_2 (CellAt.item rfl)) ?_;refine GT_st_g rfl rfl rfl rfl rfl rfl rfl (V_isF (V_eql rfl rfl rfl) h0) ?_;refine GT_st rfl rfl rfl rfl (V_pick_f rfl rfl rfl) ?_;refine GT_st rfl rfl rfl rfl (V_assign rfl rfl) ?_;refine GT_nil ?_;refine GE_cond_f rfl ?_;refine GE_seq ?_
  refine GE_slots (L' := [(0, _), (4, _), (5, _)]) ⟨rfl, rfl, rfl, trivial⟩ ?_;refine GE_drawn (.st 0 (.st 1 (.st 2 (.st 3 (.st 4 (.st 5 (.st 6 (.st 7 (.st 8 (.st 9 (.st 10 (.ld 11 [] (.st 12 .nil))))))))))))) [11] (by decide +kernel) ?_;refine GT_st rfl rfl rfl rfl (V_move rfl rfl) ?_;refine GT_st rfl rfl rfl rfl (V_move rfl rfl) ?_;refine GT_st rfl rfl rfl rfl (V_nilCheck rfl rfl) ?_;refine GT_st rfl rfl rfl rfl (V_field rfl rfl fo_175_0) ?_;refine GT_st rfl rfl rfl rfl (V_field rfl rfl fo_173_7) ?_;refine GT_st rfl rfl rfl rfl (V_load rfl rfl ag_2 (CellAt.item rfl)) ?_;refine GT_st rfl rfl rfl rfl (V_move rfl rfl) ?_;refine GT_st rfl rfl rfl rfl (V_nilCheck rfl rfl) ?_;refine GT_st rfl rfl rfl rfl (V_field rfl rfl fo_175_0) ?_;refine GT_st rfl rfl rfl rfl (V_field rfl rfl fo_173_8) ?_;refine GT_st rfl rfl rfl rfl (V_load rfl rfl ag_2 (CellAt.item rfl)) ?_;refine GT_callX rfl rfl rfl rfl rfl rfl rfl rfl rn_134 (fun w m9 => C_old (s := ⟨false, false, v, t, hd, p, ti, a, b⟩) (m := m) (l := l) (f := f) (h := h) (G := (b4, _) :: (b3, _) :: G) (m9.hs (C := cx Tryz.prog hm 0 0 w0 none' fun _ _ => True) (HS.cons rfl (HS.cons rfl (HS.chunk (HS.cons rfl (HS.cons rfl HS.last)))))) hh) (fun _ _ => GR_nil) (fun _ _ => ?_)
  refine GT_st rfl rfl rfl rfl (V_assign rfl rfl) ?_;refine GT_nil ?_;refine GE_cond rfl (fun q1 => ?_) (fun q1 => ?_)
  · exact absurd q1 (by omega)
  · refine GE_seq ?_;refine GE_slots (L' := [(0, _), (4, _), (5, _)]) ⟨rfl, rfl, rfl, trivial⟩ ?_;refine GE_plain (.st 0 (.st 1 (.st 2 (.st 3 (.st 4 (.st 5 (.st 6 .nil))))))) rfl ?_;refine GT_st rfl rfl rfl rfl (V_move rfl rfl) ?_;refine GT_st rfl rfl rfl rfl (V_nilCheck rfl rfl) ?_;refine GT_st rfl rfl rfl rfl (V_field rfl rfl fo_175_2) ?_;refine GT_st rfl rfl rfl rfl (V_load rfl rfl ag_36 (CellAt.item rfl)) ?_;refine GT_st rfl rfl rfl rfl (V_len rfl Tryz.underlying36 rfl) ?_;refine GT_st rfl rfl rfl rfl (V_isF (V_eql rfl rfl rfl) (by omega)) ?_;refine GT_st rfl rfl rfl rfl (V_assign rfl rfl) ?_;refine GT_nil ?_;refine GE_cond_f rfl ?_;refine GE_skip ?_;refine GE_inBlock ?_;refine GE_seq ?_;refine GE_slots (L' := [(0, _), (4, _), (5, _)]) ⟨rfl, rfl, rfl, trivial⟩ ?_;refine GE_plain (.st 0 (.st 1 (.st 2 (.st 3 (.ld 4 [] .nil))))) rfl ?_;refine GT_st rfl rfl rfl rfl (V_move rfl rfl) ?_;refine GT_st rfl rfl rfl rfl (V_nilCheck rfl rfl) ?_;refine GT_st rfl rfl rfl rfl (V_field rfl rfl fo_175_0) ?_;refine GT_st rfl rfl rfl rfl (V_field rfl rfl fo_173_1) ?_;refine GT_store (vs := [_]) rfl rfl rfl rfl rfl rfl rfl sz_4 rfl rfl (Nat.le_of_ble_eq_true rfl) rfl (GR_nil) ?_;refine GT_nil ?_;refine GE_seq ?_;refine GE_slots (L' := [(4, _), (5, _)]) ⟨rfl, rfl, trivial⟩ ?_;refine GE_plain (.st 0 (.st 1 (.ld 2 [] (.ld 3 [] .nil)))) rfl ?_;refine GT_st rfl rfl rfl rfl (V_loadN (vs := [_, _, _, _, _, _, _]) rfl rfl ag_47 sz_47 rfl (CellsAt.item rfl)) ?_;refine GT_st rfl rfl rfl rfl (V_move rfl rfl) ?_;refine GT_store (vs := [_, _, _, _, _, _, _]) (l' := [_, _, _, _, _, _, _]) rfl rfl rfl rfl rfl rfl rfl sz_47 rfl rfl (Nat.le_of_ble_eq_true rfl) rfl (GR_nil) ?_;refine GT_ldv rfl rfl rfl rfl rfl (V_assign rfl rfl) (GR_nil) ?_;refine GT_nil ?_
    refine GE_ret Tryz.func68 ⟨_, _, ⟨_, rfl, fun w m => run_loadVar_agg (vs := [_, _, _, _, _, _, _]) ag_47 sz_47 rfl (fun j v hj => CellsAt.item rfl j v hj w m)⟩, rfl, rfl⟩ (fun w hw => ?_)
    exact ⟨(h.A, h.c, h.I, h.ob), hh, rfl, hw.hs (C := cx Tryz.prog hm 0 0 w0 none' fun _ _ => True) (HS.cons rfl (HS.cons rfl (HS.chunk HS.last)))⟩
theorem A_close : ActC 69 (.agg #[I 3, I x, I y]) m ⟨false, true, v, t, hd, p, ti, a, b⟩ l f 0 d0 ⟨true, true, v, t, 0, t, ti, a, b⟩ l f := by
  intro w0 w h G m0 hh
  dsimp only [Ph.W, wkB, wkC] at m0
  refine Ret_ofH (vs := [_, _]) hm none' Tryz.func69 rfl Tryz.ntmps69 rfl m0 ?_
  dsimp only [slotsOf]
  refine GE_seq ?_;refine GE_plain (.ld 0 [] (.ld 1 [] (.st 2 .nil))) rfl ?_;refine GT_box (z := [_, _, _]) rfl rfl rfl rfl rfl rfl rfl (fun _ => GR_nil) (fun b3 => ?_)
  refine GT_alloc rfl rfl rfl rfl rfl zc_47 (fun _ => GR_nil) (fun b4 => ?_)
  refine GT_st rfl rfl rfl rfl (V_assign rfl rfl) ?_;refine GT_nil ?_;refine GE_seq ?_;refine GE_seq ?_;refine GE_plain (.st 0 (.st 1 (.st 2 (.st 3 (.st 4 (.st 5 (.st 6 (.st 7 (.st 8 (.st 9 (.st 10 (.st 11 (.st 12 .nil))))))))))))) rfl ?_;refine GT_st rfl rfl rfl rfl (V_move rfl rfl) ?_;refine GT_st rfl rfl rfl rfl (V_nilCheck rfl rfl) ?_;refine GT_st rfl rfl rfl rfl (V_field rfl rfl fo_175_0) ?_;refine GT_st rfl rfl rfl rfl (V_field rfl rfl fo_173_0) ?_;refine GT_st rfl rfl rfl rfl (V_load rfl rfl ag_4 (CellAt.item rfl)) ?_;refine GT_st rfl rfl rfl rfl (V_move rfl rfl) ?_;refine GT_st_g rfl rfl rfl rfl rfl rfl rfl (V_move rfl rfl) ?_;refine GT_st_g rfl rfl rfl rfl rfl rfl rfl (V_nilCheck rfl rfl) ?_;refine GT_st_g rfl rfl rfl rfl rfl rfl rfl (V_field rfl rfl fo_175_0) ?_;refine GT_st_g rfl rfl rfl rfl rfl rfl rfl (V_field rfl rfl fo_173_1) ?_;refine GT_st_g rfl rfl rfl rfl rfl rfl rfl (V_load rfl rfl ag_4 (CellAt.item rfl)) ?_;refine GT_st_g rfl rfl rfl rfl rfl rfl rfl (V_notB rfl rfl) ?_;refine GT_st rfl rfl rfl rfl (V_pick_f rfl rfl rfl) ?_;refine GT_nil ?_;refine GE_cond_f rfl ?_;refine GE_skip ?_;refine GE_seq ?_;refine GE_slots (L' := [(0, _), (4, _), (5, _)]) ⟨rfl, rfl, rfl, trivial⟩ ?_;refine GE_plain (.st 0 (.st 1 (.st 2 (.st 3 (.st 4 (.st 5 (.st 6 (.st 7 (.st 8 (.st 9 (.st 10 (.ld 11 [] (.st 12 (.st 13 (.st 14 (.ld 15 [] (.st 16 (.st 17 (.st 18 (.ld 19 [] .nil)))))))))))))))))))) rfl ?_;refine GT_st rfl rfl rfl rfl (V_move rfl rfl) ?_;refine GT_st rfl rfl rfl rfl (V_move rfl rfl) ?_;refine GT_st rfl rfl rfl rfl (V_move rfl rfl) ?_;refine GT_st rfl rfl rfl rfl (V_move rfl rfl) ?_;refine GT_st rfl rfl rfl rfl (V_nilCheck rfl rfl) ?_;refine GT_st rfl rfl rfl rfl (V_field rfl rfl fo_175_0) ?_;refine GT_st rfl rfl rfl rfl (V_field rfl rfl fo_173_3) ?_
  refine GT_st rfl rfl rfl rfl (V_load rfl rfl ag_2 (CellAt.item rfl)) ?_;refine GT_st rfl rfl rfl rfl (V_nilCheck rfl rfl) ?_;refine GT_st rfl rfl rfl rfl (V_field rfl rfl fo_175_0) ?_;refine GT_st rfl rfl rfl rfl (V_field rfl rfl fo_173_0) ?_;refine GT_store (vs := [_]) rfl rfl rfl rfl rfl rfl rfl sz_4 rfl rfl (Nat.le_of_ble_eq_true rfl) rfl (GR_nil) ?_;refine GT_st rfl rfl rfl rfl (V_nilCheck rfl rfl) ?_;refine GT_st rfl rfl rfl rfl (V_field rfl rfl fo_175_0) ?_;refine GT_st rfl rfl rfl rfl (V_field rfl rfl fo_173_4) ?_;refine GT_store (vs := [_]) rfl rfl rfl rfl rfl rfl rfl sz_2 rfl rfl (Nat.le_of_ble_eq_true rfl) rfl (GR_nil) ?_;refine GT_st rfl rfl rfl rfl (V_nilCheck rfl rfl) ?_;refine GT_st rfl rfl rfl rfl (V_field rfl rfl fo_175_0) ?_;refine GT_st rfl rfl rfl rfl (V_field rfl rfl fo_173_5) ?_;refine GT_store (vs := [_]) rfl rfl rfl rfl rfl rfl rfl sz_2 rfl rfl (Nat.le_of_ble_eq_true rfl) rfl (GR_nil) ?_;refine GT_nil ?_;refine GE_seq ?_;refine GE_slots (L' := [(4, _), (5, _)]) ⟨rfl, rfl, trivial⟩ ?_;refine GE_plain (.st 0 (.st 1 (.ld 2 [] (.ld 3 [] .nil)))) rfl ?_;refine GT_st rfl rfl rfl rfl (V_loadN (vs := [_, _, _, _, _, _, _]) rfl rfl ag_47 sz_47 rfl (CellsAt.item rfl)) ?_;refine GT_st rfl rfl rfl rfl (V_move rfl rfl) ?_;refine GT_store (vs := [_, _, _, _, _, _, _]) (l' := [_, _, _, _, _, _, _]) rfl rfl rfl rfl rfl rfl rfl sz_47 rfl rfl (Nat.le_of_ble_eq_true rfl) rfl (GR_nil) ?_;refine GT_ldv rfl rfl rfl rfl rfl (V_assign rfl rfl) (GR_nil) ?_;refine GT_nil ?_;refine GE_ret Tryz.func69 ⟨_, _, ⟨_, rfl, fun w m => run_loadVar_agg (vs := [_, _, _, _, _, _, _]) ag_47 sz_47 rfl (fun j v hj => CellsAt.item rfl j v hj w m)⟩, rfl, rfl⟩ (fun w hw => ?_)
  exact ⟨(h.A, h.c, h.I, h.ob), hh, rfl, hw.hs (C := cx Tryz.prog hm 0 0 w0 none' fun _ _ => True) (HS.cons rfl (HS.cons rfl (HS.chunk HS.last)))⟩
theorem A_turn (hx : 0 ≤ x ∧ x ≤ 2) : ActC 70 (.agg #[I 4, I x, I y]) m ⟨true, true, v, t, hd, p, ti, a, b⟩ l f 0 d0 ⟨true, true, x, t, hd, p, ti, a, b⟩ l f := by
  intro w0 w h G m0 hh
  dsimp only [Ph.W, wkB, wkC] at m0
  refine Ret_ofH (vs := [_, _]) hm none' Tryz.func70 rfl Tryz.ntmps70 rfl m0 ?_
  dsimp only [slotsOf]
  refine GE_seq ?_;refine GE_plain (.ld 0 [] (.ld 1 [] (.st 2 .nil))) rfl ?_;refine GT_box (z := [_, _, _]) rfl rfl rfl rfl rfl rfl rfl (fun _ => GR_nil) (fun b3 => ?_)
  refine GT_alloc rfl rfl rfl rfl rfl zc_47 (fun _ => GR_nil) (fun b4 => ?_)
  refine GT_st rfl rfl rfl rfl (V_assign rfl rfl) ?_;refine GT_nil ?_;refine GE_seq ?_;refine GE_block ?_;refine GE_seq ?_;refine GE_plain (.st 0 (.st 1 (.ld 2 [] (.st 3 .nil)))) rfl ?_;refine GT_st rfl rfl rfl rfl (V_field rfl rfl fo_71_1) ?_;refine GT_st rfl rfl rfl rfl (V_load rfl rfl ag_2 (CellAt.item rfl)) ?_;refine GT_call0 rfl rfl rfl rfl rfl rfl rfl rfl rn_64 (fun w hw => C_out hx) (GR_nil) ?_;refine GT_st rfl rfl rfl rfl (V_assign rfl rfl) ?_;refine GT_nil ?_;refine GE_cond_f rfl ?_;refine GE_seq ?_;refine GE_slots (L' := [(0, _), (3, _), (4, _), (5, _)]) ⟨rfl, rfl, rfl, rfl, trivial⟩ ?_;refine GE_plain (.st 0 (.st 1 (.st 2 (.st 3 (.st 4 (.st 5 (.st 6 (.st 7 (.st 8 (.st 9 (.st 10 (.st 11 .nil)))))))))))) rfl ?_;refine GT_st rfl rfl rfl rfl (V_field rfl rfl fo_71_1) ?_;refine GT_st rfl rfl rfl rfl (V_load rfl rfl ag_2 (CellAt.item rfl)) ?_;refine GT_st rfl rfl rfl rfl (V_eql rfl rfl rfl) ?_;refine GT_st rfl rfl rfl rfl (V_move rfl rfl) ?_;refine GT_split (d := 14) rfl (fun q1 => ?_) (fun q1 => ?_)
  · refine GT_st_g rfl rfl rfl rfl rfl rfl rfl (V_move rfl rfl) ?_;refine GT_st_g rfl rfl rfl rfl rfl rfl rfl (V_nilCheck rfl rfl) ?_;refine GT_st_g rfl rfl rfl rfl rfl rfl rfl (V_field rfl rfl fo_175_0) ?_;refine GT_st_g rfl rfl rfl rfl rfl rfl rfl (V_field rfl rfl fo_173_0) ?_;refine GT_st_g rfl rfl rfl rfl rfl rfl rfl (V_load rfl rfl ag_4 (CellAt.item rfl)) ?_;refine GT_st_g rfl rfl rfl rfl rfl rfl rfl (V_notB rfl rfl) ?_;refine GT_st rfl rfl rfl rfl (V_pick_t rfl rfl rfl) ?_;refine GT_st rfl rfl rfl rfl (V_assign rfl rfl) ?_;refine GT_nil ?_;refine GE_cond_f rfl ?_;refine GE_skip ?_;refine GE_inBlock ?_;refine GE_seq ?_;refine GE_slots (L' := [(0, _), (3, _), (4, _), (5, _)]) ⟨rfl, rfl, rfl, rfl, trivial⟩ ?_;refine GE_plain (.st 0 (.st 1 (.st 2 (.st 3 (.st 4 (.st 5 (.ld 6 [] .nil))))))) rfl ?_;refine GT_st rfl rfl rfl rfl (V_move rfl rfl) ?_;refine GT_st rfl rfl rfl rfl (V_field rfl rfl fo_71_1) ?_;refine GT_st rfl rfl rfl rfl (V_load rfl rfl ag_2 (CellAt.item rfl)) ?_;refine GT_st rfl rfl rfl rfl (V_nilCheck rfl rfl) ?_;refine GT_st rfl rfl rfl rfl (V_field rfl rfl fo_175_0) ?_;refine GT_st rfl rfl rfl rfl (V_field rfl rfl fo_173_2) ?_;refine GT_store (vs := [_]) rfl rfl rfl rfl rfl rfl rfl sz_3 rfl rfl (Nat.le_of_ble_eq_true rfl) rfl (GR_nil) ?_;refine GT_nil ?_;refine GE_seq ?_;refine GE_slots (L' := [(4, _), (5, _)]) ⟨rfl, rfl, trivial⟩ ?_;refine GE_plain (.st 0 (.st 1 (.ld 2 [] (.ld 3 [] .nil)))) rfl ?_;refine GT_st rfl rfl rfl rfl (V_loadN (vs := [_, _, _, _, _, _, _]) rfl rfl ag_47 sz_47 rfl (CellsAt.item rfl)) ?_;refine GT_st rfl rfl rfl rfl (V_move rfl rfl) ?_;refine GT_store (vs := [_, _, _, _, _, _, _]) (l' := [_, _, _, _, _, _, _]) rfl rfl rfl rfl rfl rfl rfl sz_47 rfl rfl (Nat.le_of_ble_eq_true rfl) rfl (GR_nil) ?_
    refine GT_ldv rfl rfl rfl rfl rfl (V_assign rfl rfl) (GR_nil) ?_;refine GT_nil ?_;refine GE_ret Tryz.func70 ⟨_, _, ⟨_, rfl, fun w m => run_loadVar_agg (vs := [_, _, _, _, _, _, _]) ag_47 sz_47 rfl (fun j v hj => CellsAt.item rfl j v hj w m)⟩, rfl, rfl⟩ (fun w hw => ?_)
    exact ⟨(h.A, h.c, h.I, h.ob), hh, rfl, hw.hs (C := cx Tryz.prog hm 0 0 w0 none' fun _ _ => True) (HS.cons rfl (HS.cons rfl (HS.chunk HS.last)))⟩
  · refine GT_skip rfl rfl rfl rfl rfl (by decide) rfl rfl ?_;refine GT_skip rfl rfl rfl rfl rfl (by decide) rfl rfl ?_;refine GT_skip rfl rfl rfl rfl rfl (by decide) rfl rfl ?_;refine GT_skip rfl rfl rfl rfl rfl (by decide) rfl rfl ?_;refine GT_skip rfl rfl rfl rfl rfl (by decide) rfl rfl ?_;refine GT_skip rfl rfl rfl rfl rfl (by decide) rfl rfl ?_;refine GT_st rfl rfl rfl rfl (V_pick_f rfl rfl rfl) ?_;refine GT_st rfl rfl rfl rfl (V_assign rfl rfl) ?_;refine GT_nil ?_;refine GE_cond_f rfl ?_;refine GE_skip ?_;refine GE_inBlock ?_;refine GE_seq ?_;refine GE_slots (L' := [(0, _), (3, _), (4, _), (5, _)]) ⟨rfl, rfl, rfl, rfl, trivial⟩ ?_;refine GE_plain (.st 0 (.st 1 (.st 2 (.st 3 (.st 4 (.st 5 (.ld 6 [] .nil))))))) rfl ?_;refine GT_st rfl rfl rfl rfl (V_move rfl rfl) ?_;refine GT_st rfl rfl rfl rfl (V_field rfl rfl fo_71_1) ?_;refine GT_st rfl rfl rfl rfl (V_load rfl rfl ag_2 (CellAt.item rfl)) ?_;refine GT_st rfl rfl rfl rfl (V_nilCheck rfl rfl) ?_;refine GT_st rfl rfl rfl rfl (V_field rfl rfl fo_175_0) ?_;refine GT_st rfl rfl rfl rfl (V_field rfl rfl fo_173_2) ?_;refine GT_store (vs := [_]) rfl rfl rfl rfl rfl rfl rfl sz_3 rfl rfl (Nat.le_of_ble_eq_true rfl) rfl (GR_nil) ?_;refine GT_nil ?_;refine GE_seq ?_;refine GE_slots (L' := [(4, _), (5, _)]) ⟨rfl, rfl, trivial⟩ ?_;refine GE_plain (.st 0 (.st 1 (.ld 2 [] (.ld 3 [] .nil)))) rfl ?_;refine GT_st rfl rfl rfl rfl (V_loadN (vs := [_, _, _, _, _, _, _]) rfl rfl ag_47 sz_47 rfl (CellsAt.item rfl)) ?_;refine GT_st rfl rfl rfl rfl (V_move rfl rfl) ?_;refine GT_store (vs := [_, _, _, _, _, _, _]) (l' := [_, _, _, _, _, _, _]) rfl rfl rfl rfl rfl rfl rfl sz_47 rfl rfl (Nat.le_of_ble_eq_true rfl) rfl (GR_nil) ?_;refine GT_ldv rfl rfl rfl rfl rfl (V_assign rfl rfl) (GR_nil) ?_;refine GT_nil ?_
    refine GE_ret Tryz.func70 ⟨_, _, ⟨_, rfl, fun w m => run_loadVar_agg (vs := [_, _, _, _, _, _, _]) ag_47 sz_47 rfl (fun j v hj => CellsAt.item rfl j v hj w m)⟩, rfl, rfl⟩ (fun w hw => ?_)
    exact ⟨(h.A, h.c, h.I, h.ob), hh, rfl, hw.hs (C := cx Tryz.prog hm 0 0 w0 none' fun _ _ => True) (HS.cons rfl (HS.cons rfl (HS.chunk HS.last)))⟩
abbrev tkS (m : Mch) (v t hd p ti a b : Int) : PS := ⟨true, true, v, tickM m t v, if m.melt ≤ tickM m t v then hd + 1 else hd, max p (tickM m t v), ti + 1, a, b⟩
theorem A_wait (h0 : m.Ok) (ht : m.room ≤ t ∧ t ≤ m.top) (hti : 0 ≤ ti ∧ ti < 1073741824) (hhd : 0 ≤ hd ∧ hd ≤ 1073741824) : ActC 71 (.agg #[I 5, I 1, I y]) m ⟨true, true, v, t, hd, p, ti, a, b⟩ l f 0 d0 (tkS m v t hd p ti a b) l f := by
  intro w0 w h G m0 hh
  dsimp only [Ph.W, wkB, wkC] at m0
  refine Ret_ofH (vs := [_, _]) hm none' Tryz.func71 rfl Tryz.ntmps71 rfl m0 ?_
  dsimp only [slotsOf]
  refine GE_seq ?_;refine GE_plain (.ld 0 [] (.ld 1 [] (.st 2 .nil))) rfl ?_;refine GT_box (z := [_, _, _]) rfl rfl rfl rfl rfl rfl rfl (fun _ => GR_nil) (fun b3 => ?_)
  refine GT_alloc rfl rfl rfl rfl rfl zc_47 (fun _ => GR_nil) (fun b4 => ?_)
  refine GT_st rfl rfl rfl rfl (V_assign rfl rfl) ?_;refine GT_nil ?_;refine GE_seq ?_;refine GE_block ?_;refine GE_seq ?_;refine GE_plain (.st 0 (.st 1 (.ld 2 [] (.st 3 .nil)))) rfl ?_;refine GT_st rfl rfl rfl rfl (V_field rfl rfl fo_71_1) ?_;refine GT_st rfl rfl rfl rfl (V_load rfl rfl ag_2 (CellAt.item rfl)) ?_;refine GT_call0 rfl rfl rfl rfl rfl rfl rfl rfl rn_64 (fun w hw => C_out (by omega)) (GR_nil) ?_;refine GT_st rfl rfl rfl rfl (V_assign rfl rfl) ?_;refine GT_nil ?_;refine GE_cond_f rfl ?_;refine GE_seq ?_;refine GE_slots (L' := [(0, _), (3, _), (4, _)]) ⟨rfl, rfl, rfl, trivial⟩ ?_;refine GE_drawn (.st 0 (.st 1 (.st 2 (.st 3 (.st 4 (.st 5 (.st 6 (.st 7 (.st 8 (.st 9 .nil)))))))))) [] (by decide +kernel) ?_;refine GT_st rfl rfl rfl rfl (V_move rfl rfl) ?_;refine GT_st rfl rfl rfl rfl (V_nilCheck rfl rfl) ?_;refine GT_st rfl rfl rfl rfl (V_field rfl rfl fo_175_0) ?_;refine GT_st rfl rfl rfl rfl (V_field rfl rfl fo_173_6) ?_;refine GT_st rfl rfl rfl rfl (V_load rfl rfl ag_2 (CellAt.item rfl)) ?_;refine GT_st rfl rfl rfl rfl (V_field rfl rfl fo_71_1) ?_;refine GT_st rfl rfl rfl rfl (V_load rfl rfl ag_2 (CellAt.item rfl)) ?_;refine GT_st rfl rfl rfl rfl (V_add rfl rfl rfl (wrap_i64 (by omega))) ?_;refine GT_st rfl rfl rfl rfl (V_isF (V_gtr rfl rfl rfl) (by omega)) ?_;refine GT_st rfl rfl rfl rfl (V_assign rfl rfl) ?_;refine GT_nil ?_;refine GE_cond_f rfl ?_;refine GE_skip ?_;refine GE_inBlock ?_;refine GE_seq ?_;refine GE_slots (L' := [(0, _), (3, _), (4, _)]) ⟨rfl, rfl, rfl, trivial⟩ ?_;refine GE_drawn (.st 0 (.st 1 (.st 2 (.st 3 (.st 4 (.st 5 (.st 6 (.st 7 (.st 8 (.st 9 (.st 10 (.ld 11 [] .nil)))))))))))) [11] (by decide +kernel) ?_;refine GT_st rfl rfl rfl rfl (V_move rfl rfl) ?_;refine GT_st rfl rfl rfl rfl (V_nilCheck rfl rfl) ?_
  refine GT_st rfl rfl rfl rfl (V_field rfl rfl fo_175_0) ?_;refine GT_st rfl rfl rfl rfl (V_field rfl rfl fo_173_6) ?_;refine GT_st rfl rfl rfl rfl (V_load rfl rfl ag_2 (CellAt.item rfl)) ?_;refine GT_st rfl rfl rfl rfl (V_field rfl rfl fo_71_1) ?_;refine GT_st rfl rfl rfl rfl (V_load rfl rfl ag_2 (CellAt.item rfl)) ?_;refine GT_st rfl rfl rfl rfl (V_add rfl rfl rfl (wrap_i64 (by omega))) ?_;refine GT_st rfl rfl rfl rfl (V_nilCheck rfl rfl) ?_;refine GT_st rfl rfl rfl rfl (V_field rfl rfl fo_175_0) ?_;refine GT_st rfl rfl rfl rfl (V_field rfl rfl fo_173_6) ?_;refine GT_store (vs := [_]) rfl rfl rfl rfl rfl rfl rfl sz_2 rfl rfl (Nat.le_of_ble_eq_true rfl) rfl (GR_nil) ?_;refine GT_nil ?_;refine GE_seq ?_;refine GE_seq ?_;refine GE_slots (L' := [(0, _), (3, _), (4, _)]) ⟨rfl, rfl, rfl, trivial⟩ ?_;refine GE_plain (.st 0 (.st 1 (.st 2 .nil))) rfl ?_;refine GT_st rfl rfl rfl rfl (V_field rfl rfl fo_71_1) ?_;refine GT_st rfl rfl rfl rfl (V_load rfl rfl ag_2 (CellAt.item rfl)) ?_;refine GT_st rfl rfl rfl rfl (V_move rfl rfl) ?_;refine GT_nil ?_;refine GE_block ?_;refine GE_to (GE_loop (ι := Nat) (fun z => 1 - z) (fun z => [(0, ptr h.b 0), (4, ptr b4 0), (34, I 1), (35, I z)]) (fun z => (h.b, wkB (if z = 0 then ⟨true, true, v, t, hd, p, ti + 1, a, b⟩ else tkS m v t hd p ti a b) m h.A l.length h.c h.r) :: (h.r, h.ob) :: (b4, blk [I 0, I 0, I 0, I 0, I 0, I 0, .bool false] 47) :: (h.I ++ G)) (fun z => z ≤ 1) ?_ 0 ?_) ⟨rfl, rfl, rfl, rfl, trivial⟩ (HS.cons rfl (HS.cons rfl (HS.cons rfl (HS.chunk HS.last))))
  · rintro z hz ih
    refine GE_seq ?_;refine GE_plain (.st 0 .nil) rfl ?_;refine GT_st rfl rfl rfl rfl (V_lss rfl rfl rfl) ?_;refine GT_nil ?_;refine GE_seq ?_;refine GE_cond rfl (fun q1 => ?_) (fun q1 => ?_)
    · obtain rfl : z = 0 := (by omega); rw [if_pos rfl]; dsimp only [wkB, wkC]
      refine GE_skip ?_;refine GE_seq ?_;refine GE_block ?_;refine GE_seq ?_;refine GE_drawn (.st 0 (.st 1 (.st 2 (.st 3 (.st 4 (.st 5 (.st 6 (.st 7 (.st 8 (.st 9 (.st 10 (.st 11 (.st 12 (.st 13 (.st 14 (.ld 15 [0] (.st 16 (.st 17 (.st 18 (.ld 19 [] .nil)))))))))))))))))))) [15, 19] (by decide +kernel) ?_;refine GT_st rfl rfl rfl rfl (V_move rfl rfl) ?_;refine GT_st rfl rfl rfl rfl (V_move rfl rfl) ?_;refine GT_st rfl rfl rfl rfl (V_nilCheck rfl rfl) ?_;refine GT_st rfl rfl rfl rfl (V_field rfl rfl fo_175_1) ?_;refine GT_st rfl rfl rfl rfl (V_loadN (vs := [_, _, _, _, _, _, _, _, _]) rfl rfl ag_58 sz_58 rfl (CellsAt.item rfl)) ?_;refine GT_st rfl rfl rfl rfl (V_move rfl rfl) ?_;refine GT_st rfl rfl rfl rfl (V_nilCheck rfl rfl) ?_;refine GT_st rfl rfl rfl rfl (V_field rfl rfl fo_175_0) ?_;refine GT_st rfl rfl rfl rfl (V_field rfl rfl fo_173_3) ?_;refine GT_st rfl rfl rfl rfl (V_load rfl rfl ag_2 (CellAt.item rfl)) ?_;refine GT_st rfl rfl rfl rfl (V_move rfl rfl) ?_;refine GT_st rfl rfl rfl rfl (V_nilCheck rfl rfl) ?_;refine GT_st rfl rfl rfl rfl (V_field rfl rfl fo_175_0) ?_;refine GT_st rfl rfl rfl rfl (V_field rfl rfl fo_173_2) ?_;refine GT_st rfl rfl rfl rfl (V_load rfl rfl ag_3 (CellAt.item rfl)) ?_;refine GT_call0 rfl rfl rfl rfl rfl rfl rfl rfl rn_108 (fun w hw => C_tick h0 ht) (GR_cons rfl rfl rfl rfl (V_move rfl rfl) (GR_nil)) ?_;refine GT_st rfl rfl rfl rfl (V_nilCheck rfl rfl) ?_;refine GT_st rfl rfl rfl rfl (V_field rfl rfl fo_175_0) ?_;refine GT_st rfl rfl rfl rfl (V_field rfl rfl fo_173_3) ?_;refine GT_store (vs := [_]) rfl rfl rfl rfl rfl rfl rfl sz_2 rfl rfl (Nat.le_of_ble_eq_true rfl) rfl (GR_nil) ?_;refine GT_nil ?_;refine GE_seq ?_;refine GE_seq ?_;refine GE_slots (L' := [(0, _), (4, _), (34, _), (35, _)]) ⟨rfl, rfl, rfl, rfl, trivial⟩ ?_
      refine GE_plain (.st 0 (.st 1 (.st 2 (.st 3 (.st 4 (.st 5 .nil)))))) rfl ?_;refine GT_st rfl rfl rfl rfl (V_move rfl rfl) ?_;refine GT_st rfl rfl rfl rfl (V_nilCheck rfl rfl) ?_;refine GT_st rfl rfl rfl rfl (V_field rfl rfl fo_175_0) ?_;refine GT_st rfl rfl rfl rfl (V_field rfl rfl fo_173_0) ?_;refine GT_st rfl rfl rfl rfl (V_load rfl rfl ag_4 (CellAt.item rfl)) ?_;refine GT_st rfl rfl rfl rfl (V_notB rfl rfl) ?_;refine GT_nil ?_;refine GE_cond_f rfl ?_;refine GE_skip ?_;refine GE_seq ?_;refine GE_slots (L' := [(0, _), (4, _), (34, _), (35, _)]) ⟨rfl, rfl, rfl, rfl, trivial⟩ ?_;refine GE_drawn (.st 0 (.st 1 (.st 2 (.st 3 (.st 4 (.st 5 (.st 6 (.st 7 (.st 8 (.st 9 (.st 10 (.st 11 (.st 12 (.st 13 (.st 14 (.ld 15 [] .nil)))))))))))))))) [15] (by decide +kernel) ?_;refine GT_st rfl rfl rfl rfl (V_move rfl rfl) ?_;refine GT_st rfl rfl rfl rfl (V_move rfl rfl) ?_;refine GT_st rfl rfl rfl rfl (V_nilCheck rfl rfl) ?_;refine GT_st rfl rfl rfl rfl (V_field rfl rfl fo_175_0) ?_;refine GT_st rfl rfl rfl rfl (V_field rfl rfl fo_173_5) ?_;refine GT_st rfl rfl rfl rfl (V_load rfl rfl ag_2 (CellAt.item rfl)) ?_;refine GT_st rfl rfl rfl rfl (V_move rfl rfl) ?_;refine GT_st rfl rfl rfl rfl (V_nilCheck rfl rfl) ?_;refine GT_st rfl rfl rfl rfl (V_field rfl rfl fo_175_0) ?_;refine GT_st rfl rfl rfl rfl (V_field rfl rfl fo_173_3) ?_;refine GT_st rfl rfl rfl rfl (V_load rfl rfl ag_2 (CellAt.item rfl)) ?_;refine GT_st rfl rfl rfl rfl (V_max rfl rfl rfl) ?_;refine GT_st rfl rfl rfl rfl (V_nilCheck rfl rfl) ?_;refine GT_st rfl rfl rfl rfl (V_field rfl rfl fo_175_0) ?_;refine GT_st rfl rfl rfl rfl (V_field rfl rfl fo_173_5) ?_;refine GT_store (vs := [_]) rfl rfl rfl rfl rfl rfl rfl sz_2 rfl rfl (Nat.le_of_ble_eq_true rfl) rfl (GR_nil) ?_;refine GT_nil ?_;refine GE_seq ?_
      refine GE_slots (L' := [(0, _), (4, _), (34, _), (35, _)]) ⟨rfl, rfl, rfl, rfl, trivial⟩ ?_;refine GE_drawn (.st 0 (.st 1 (.st 2 (.st 3 (.st 4 (.st 5 (.st 6 (.st 7 (.st 8 (.st 9 (.st 10 .nil))))))))))) [] (by decide +kernel) ?_;refine GT_st rfl rfl rfl rfl (V_move rfl rfl) ?_;refine GT_st rfl rfl rfl rfl (V_nilCheck rfl rfl) ?_;refine GT_st rfl rfl rfl rfl (V_field rfl rfl fo_175_0) ?_;refine GT_st rfl rfl rfl rfl (V_field rfl rfl fo_173_3) ?_;refine GT_st rfl rfl rfl rfl (V_load rfl rfl ag_2 (CellAt.item rfl)) ?_;refine GT_st rfl rfl rfl rfl (V_move rfl rfl) ?_;refine GT_st rfl rfl rfl rfl (V_nilCheck rfl rfl) ?_;refine GT_st rfl rfl rfl rfl (V_field rfl rfl fo_175_1) ?_;refine GT_st rfl rfl rfl rfl (V_field rfl rfl fo_58_1) ?_;refine GT_st rfl rfl rfl rfl (V_load rfl rfl ag_2 (CellAt.item rfl)) ?_;refine GT_st rfl rfl rfl rfl (V_geq rfl rfl rfl) ?_;refine GT_nil ?_;refine GE_cond rfl (fun q2 => ?_) (fun q2 => ?_)
      · refine GE_slots (L' := [(0, _), (4, _), (34, _), (35, _)]) ⟨rfl, rfl, rfl, rfl, trivial⟩ ?_;refine GE_plain (.st 0 (.st 1 (.st 2 (.st 3 (.st 4 (.st 5 (.st 6 (.st 7 (.st 8 (.ld 9 [] .nil)))))))))) rfl ?_;refine GT_st rfl rfl rfl rfl (V_move rfl rfl) ?_;refine GT_st rfl rfl rfl rfl (V_nilCheck rfl rfl) ?_;refine GT_st rfl rfl rfl rfl (V_field rfl rfl fo_175_0) ?_;refine GT_st rfl rfl rfl rfl (V_field rfl rfl fo_173_4) ?_;refine GT_st rfl rfl rfl rfl (V_load rfl rfl ag_2 (CellAt.item rfl)) ?_;refine GT_st rfl rfl rfl rfl (V_add rfl rfl rfl (wrap_i64 (by omega))) ?_;refine GT_st rfl rfl rfl rfl (V_nilCheck rfl rfl) ?_;refine GT_st rfl rfl rfl rfl (V_field rfl rfl fo_175_0) ?_;refine GT_st rfl rfl rfl rfl (V_field rfl rfl fo_173_4) ?_;refine GT_store (vs := [_]) rfl rfl rfl rfl rfl rfl rfl sz_2 rfl rfl (Nat.le_of_ble_eq_true rfl) rfl (GR_nil) ?_;refine GT_nil ?_;refine GE_inBlock ?_;refine GE_slots (L' := [(0, _), (4, _), (34, _), (35, _)]) ⟨rfl, rfl, rfl, rfl, trivial⟩ ?_;refine GE_plain (.st 0 (.ld 1 [] .nil)) rfl ?_;refine GT_st rfl rfl rfl rfl (V_add rfl rfl rfl (wrap_i64 (by omega))) ?_;refine GT_ldv rfl rfl rfl rfl rfl (V_move rfl rfl) (GR_nil) ?_;refine GT_nil ?_
        exact GE_to (ih 1 (Nat.le_refl _) (by omega)) ⟨rfl, rfl, rfl, rfl, trivial⟩ (HS.cons (by rw [if_neg (by decide)]; unfold tkS; first | (rw [if_pos q2]; rfl) | (rw [if_neg q2]; rfl)) (HS.cons rfl (HS.cons rfl (HS.chunk HS.last))))
      · refine GE_skip ?_;refine GE_inBlock ?_;refine GE_slots (L' := [(0, _), (4, _), (34, _), (35, _)]) ⟨rfl, rfl, rfl, rfl, trivial⟩ ?_;refine GE_plain (.st 0 (.ld 1 [] .nil)) rfl ?_;refine GT_st rfl rfl rfl rfl (V_add rfl rfl rfl (wrap_i64 (by omega))) ?_;refine GT_ldv rfl rfl rfl rfl rfl (V_move rfl rfl) (GR_nil) ?_;refine GT_nil ?_
        exact GE_to (ih 1 (Nat.le_refl _) (by omega)) ⟨rfl, rfl, rfl, rfl, trivial⟩ (HS.cons (by rw [if_neg (by decide)]; unfold tkS; first | (rw [if_pos q2]; rfl) | (rw [if_neg q2]; rfl)) (HS.cons rfl (HS.cons rfl (HS.chunk HS.last))))
    · obtain rfl : z = 1 := (by omega); rw [if_neg (by decide)]; dsimp only [wkB, wkC]
      refine GE_exit rfl ?_;refine GE_seq ?_;refine GE_slots (L' := [(4, _)]) ⟨rfl, trivial⟩ ?_;refine GE_plain (.st 0 (.ld 1 [] (.st 2 .nil))) rfl ?_;refine GT_st rfl rfl rfl rfl (V_loadN (vs := [_, _, _, _, _, _, _]) rfl rfl ag_47 sz_47 rfl (CellsAt.item rfl)) ?_;refine GT_store (vs := [_, _, _, _, _, _, _]) (l' := [_, _, _, _, _, _, _]) rfl rfl rfl rfl rfl rfl rfl sz_47 rfl rfl (Nat.le_of_ble_eq_true rfl) rfl (GR_nil) ?_;refine GT_st rfl rfl rfl rfl (V_assign rfl rfl) ?_;refine GT_nil ?_;refine GE_ret Tryz.func71 ⟨_, _, ⟨_, rfl, fun w m => run_loadVar_agg (vs := [_, _, _, _, _, _, _]) ag_47 sz_47 rfl (fun j v hj => CellsAt.item rfl j v hj w m)⟩, rfl, rfl⟩ (fun w hw => ?_)
      exact ⟨(h.A, h.c, h.I, h.ob), hh, rfl, hw.hs (C := cx Tryz.prog hm 0 0 w0 none' fun _ _ => True) (HS.cons rfl (HS.cons rfl (HS.chunk HS.last)))⟩
  · exact Nat.zero_le _
set_option maxHeartbeats 1000000 in
theorem A_open (h0 : v ≠ 1) (ht : t ≤ m.cool) (hl : l.length ≤ 900) (hab : a ≠ b) (hua : 0 ≤ us f a ∧ us f a ≤ 100000) (hub : 0 ≤ us f b ∧ us f b ≤ 100000) :
    ActC 72 (.agg #[I 6, I x, I y]) m ⟨true, true, v, t, hd, p, ti, a, b⟩ l f 0 ⟨l.length + 1, a, b, ti, hd, p, decide (m.hold ≤ hd)⟩ ⟨false, false, v, t, hd, p, ti, a, b⟩ (l ++ [⟨l.length + 1, a, b, ti, hd, p, decide (m.hold ≤ hd)⟩]) (bump (bump f a) b) := by
  intro w0 w h G m0 hh
  dsimp only [Ph.W, wkB, wkC] at m0
  have hb2 : us (bump f a) b = us f b := by unfold us bump upd; rw [if_neg hab.symm]
  refine Ret_ofH (vs := [_, _]) hm none' Tryz.func72 rfl Tryz.ntmps72 rfl m0 ?_
  dsimp only [slotsOf]
  refine GE_seq ?_;refine GE_plain (.ld 0 [] (.ld 1 [] (.st 2 .nil))) rfl ?_;refine GT_box (z := [_, _, _]) rfl rfl rfl rfl rfl rfl rfl (fun _ => GR_nil) (fun b3 => ?_)
  refine GT_alloc rfl rfl rfl rfl rfl zc_47 (fun _ => GR_nil) (fun b4 => ?_)
  refine GT_st rfl rfl rfl rfl (V_assign rfl rfl) ?_;refine GT_nil ?_;refine GE_seq ?_;refine GE_block ?_;refine GE_seq ?_;refine GE_plain (.st 0 (.st 1 (.st 2 (.st 3 (.st 4 (.st 5 (.st 6 .nil))))))) rfl ?_;refine GT_st rfl rfl rfl rfl (V_move rfl rfl) ?_;refine GT_st rfl rfl rfl rfl (V_nilCheck rfl rfl) ?_;refine GT_st rfl rfl rfl rfl (V_field rfl rfl fo_175_0) ?_;refine GT_st rfl rfl rfl rfl (V_field rfl rfl fo_173_0) ?_;refine GT_st rfl rfl rfl rfl (V_load rfl rfl ag_4 (CellAt.item rfl)) ?_;refine GT_st rfl rfl rfl rfl (V_notB rfl rfl) ?_;refine GT_st rfl rfl rfl rfl (V_assign rfl rfl) ?_;refine GT_nil ?_;refine GE_cond_f rfl ?_;refine GE_seq ?_;refine GE_slots (L' := [(0, _), (4, _)]) ⟨rfl, rfl, trivial⟩ ?_;refine GE_drawn (.st 0 (.st 1 (.st 2 (.st 3 (.st 4 (.st 5 (.st 6 (.st 7 (.st 8 (.st 9 (.st 10 (.st 11 (.st 12 (.st 13 (.st 14 (.st 15 (.st 16 (.st 17 (.st 18 (.st 19 .nil)))))))))))))))))))) [] (by decide +kernel) ?_;refine GT_st rfl rfl rfl rfl (V_move rfl rfl) ?_;refine GT_st rfl rfl rfl rfl (V_nilCheck rfl rfl) ?_;refine GT_st rfl rfl rfl rfl (V_field rfl rfl fo_175_0) ?_;refine GT_st rfl rfl rfl rfl (V_field rfl rfl fo_173_2) ?_;refine GT_st rfl rfl rfl rfl (V_load rfl rfl ag_3 (CellAt.item rfl)) ?_;refine GT_st rfl rfl rfl rfl (V_isF (V_eql rfl rfl rfl) h0) ?_;refine GT_st rfl rfl rfl rfl (V_move rfl rfl) ?_;refine GT_st_g rfl rfl rfl rfl rfl rfl rfl (V_move rfl rfl) ?_;refine GT_st_g rfl rfl rfl rfl rfl rfl rfl (V_nilCheck rfl rfl) ?_;refine GT_st_g rfl rfl rfl rfl rfl rfl rfl (V_field rfl rfl fo_175_0) ?_;refine GT_st_g rfl rfl rfl rfl rfl rfl rfl (V_field rfl rfl fo_173_3) ?_;refine GT_st_g rfl rfl rfl rfl rfl rfl rfl (V_load rfl rfl ag_2 (CellAt.item rfl)) ?_;refine GT_st_g rfl rfl rfl rfl rfl rfl rfl (V_move rfl rfl) ?_
  refine GT_st_g rfl rfl rfl rfl rfl rfl rfl (V_nilCheck rfl rfl) ?_;refine GT_st_g rfl rfl rfl rfl rfl rfl rfl (V_field rfl rfl fo_175_1) ?_;refine GT_st_g rfl rfl rfl rfl rfl rfl rfl (V_field rfl rfl fo_58_2) ?_;refine GT_st_g rfl rfl rfl rfl rfl rfl rfl (V_load rfl rfl ag_2 (CellAt.item rfl)) ?_;refine GT_st_g rfl rfl rfl rfl rfl rfl rfl (V_isF (V_gtr rfl rfl rfl) (by omega)) ?_;refine GT_st rfl rfl rfl rfl (V_pick_f rfl rfl rfl) ?_;refine GT_st rfl rfl rfl rfl (V_assign rfl rfl) ?_;refine GT_nil ?_;refine GE_cond_f rfl ?_;refine GE_skip ?_;refine GE_inBlock ?_;refine GE_seq ?_;refine GE_slots (L' := [(0, _), (4, _)]) ⟨rfl, rfl, trivial⟩ ?_;refine GE_drawn (.st 0 (.st 1 (.st 2 (.st 3 (.st 4 (.st 5 (.st 6 (.st 7 (.st 8 (.st 9 (.st 10 (.st 11 (.st 12 (.st 13 (.st 14 (.st 15 (.st 16 (.st 17 (.st 18 (.st 19 (.st 20 (.st 21 (.st 22 (.st 23 (.st 24 (.st 25 (.st 26 (.st 27 (.st 28 (.st 29 (.st 30 (.st 31 (.st 32 (.st 33 (.st 34 (.st 35 (.st 36 (.st 37 (.st 38 (.st 39 (.st 40 (.st 41 (.st 42 (.ld 43 [] .nil)))))))))))))))))))))))))))))))))))))))))))) [43] (by decide +kernel) ?_;refine GT_st rfl rfl rfl rfl (V_move rfl rfl) ?_;refine GT_st rfl rfl rfl rfl (V_nilCheck rfl rfl) ?_;refine GT_st rfl rfl rfl rfl (V_field rfl rfl fo_175_2) ?_;refine GT_st rfl rfl rfl rfl (V_load rfl rfl ag_36 (CellAt.item rfl)) ?_;refine GT_st rfl rfl rfl rfl (V_len rfl Tryz.underlying36 rfl) ?_;refine GT_st rfl rfl rfl rfl (V_add rfl rfl rfl (wrap_i64 (by omega))) ?_;refine GT_st rfl rfl rfl rfl (V_move rfl rfl) ?_;refine GT_st rfl rfl rfl rfl (V_nilCheck rfl rfl) ?_;refine GT_st rfl rfl rfl rfl (V_field rfl rfl fo_175_0) ?_;refine GT_st rfl rfl rfl rfl (V_field rfl rfl fo_173_7) ?_;refine GT_st rfl rfl rfl rfl (V_load rfl rfl ag_2 (CellAt.item rfl)) ?_
  refine GT_st rfl rfl rfl rfl (V_move rfl rfl) ?_;refine GT_st rfl rfl rfl rfl (V_nilCheck rfl rfl) ?_;refine GT_st rfl rfl rfl rfl (V_field rfl rfl fo_175_0) ?_;refine GT_st rfl rfl rfl rfl (V_field rfl rfl fo_173_8) ?_;refine GT_st rfl rfl rfl rfl (V_load rfl rfl ag_2 (CellAt.item rfl)) ?_;refine GT_st rfl rfl rfl rfl (V_move rfl rfl) ?_;refine GT_st rfl rfl rfl rfl (V_nilCheck rfl rfl) ?_;refine GT_st rfl rfl rfl rfl (V_field rfl rfl fo_175_0) ?_;refine GT_st rfl rfl rfl rfl (V_field rfl rfl fo_173_6) ?_;refine GT_st rfl rfl rfl rfl (V_load rfl rfl ag_2 (CellAt.item rfl)) ?_;refine GT_st rfl rfl rfl rfl (V_move rfl rfl) ?_;refine GT_st rfl rfl rfl rfl (V_nilCheck rfl rfl) ?_;refine GT_st rfl rfl rfl rfl (V_field rfl rfl fo_175_0) ?_;refine GT_st rfl rfl rfl rfl (V_field rfl rfl fo_173_4) ?_;refine GT_st rfl rfl rfl rfl (V_load rfl rfl ag_2 (CellAt.item rfl)) ?_;refine GT_st rfl rfl rfl rfl (V_move rfl rfl) ?_;refine GT_st rfl rfl rfl rfl (V_nilCheck rfl rfl) ?_;refine GT_st rfl rfl rfl rfl (V_field rfl rfl fo_175_0) ?_;refine GT_st rfl rfl rfl rfl (V_field rfl rfl fo_173_5) ?_;refine GT_st rfl rfl rfl rfl (V_load rfl rfl ag_2 (CellAt.item rfl)) ?_;refine GT_st rfl rfl rfl rfl (V_move rfl rfl) ?_;refine GT_st rfl rfl rfl rfl (V_nilCheck rfl rfl) ?_;refine GT_st rfl rfl rfl rfl (V_field rfl rfl fo_175_0) ?_;refine GT_st rfl rfl rfl rfl (V_field rfl rfl fo_173_4) ?_;refine GT_st rfl rfl rfl rfl (V_load rfl rfl ag_2 (CellAt.item rfl)) ?_;refine GT_st rfl rfl rfl rfl (V_move rfl rfl) ?_;refine GT_st rfl rfl rfl rfl (V_nilCheck rfl rfl) ?_;refine GT_st rfl rfl rfl rfl (V_field rfl rfl fo_175_1) ?_;refine GT_st rfl rfl rfl rfl (V_field rfl rfl fo_58_7) ?_;refine GT_st rfl rfl rfl rfl (V_load rfl rfl ag_2 (CellAt.item rfl)) ?_
  refine GT_st rfl rfl rfl rfl (V_geq rfl rfl rfl) ?_;refine GT_st rfl rfl rfl rfl (V_build (vs := [_, _, _, _, _, _, _]) rfl rfl zc_47 pl_47 sa_47 rfl) ?_;refine GT_store (vs := [_, _, _, _, _, _, _]) (l' := [_, _, _, _, _, _, _]) rfl rfl rfl rfl rfl rfl rfl sz_47 rfl rfl (Nat.le_of_ble_eq_true rfl) rfl (GR_nil) ?_;refine GT_nil ?_;refine GE_seq ?_;refine GE_slots (L' := [(0, _), (4, _)]) ⟨rfl, rfl, trivial⟩ ?_;refine GE_drawn (.st 0 (.st 1 (.st 2 (.st 3 (.st 4 (.st 5 (.ld 6 [0, 1, 2, 3, 4] (.ld 7 [0] (.st 8 (.st 9 (.ld 10 [] .nil))))))))))) [6, 7, 10] (by decide +kernel) ?_;refine GT_st rfl rfl rfl rfl (V_move rfl rfl) ?_;refine GT_st rfl rfl rfl rfl (V_move rfl rfl) ?_;refine GT_st rfl rfl rfl rfl (V_nilCheck rfl rfl) ?_;refine GT_st rfl rfl rfl rfl (V_field rfl rfl fo_175_2) ?_;refine GT_st rfl rfl rfl rfl (V_load rfl rfl ag_36 (CellAt.item rfl)) ?_;refine GT_st rfl rfl rfl rfl (V_loadN (vs := [_, _, _, _, _, _, _]) rfl rfl ag_47 sz_47 rfl (CellsAt.item rfl)) ?_;refine GT_buildSlice (z := [_, _, _, _, _, _, _]) rfl rfl rfl rfl rfl Tryz.underlying36 zc_47 sz_47 (by decide) rfl rfl (fun _ => GR_cons rfl rfl rfl rfl (V_move rfl rfl) (GR_cons rfl rfl rfl rfl (V_move rfl rfl) (GR_cons rfl rfl rfl rfl ((by first | exact V_nilCheck rfl rfl | exact V_nilCheck_func rfl rfl | exact V_nilCheck_yield rfl rfl | exact V_nilCheck_iface rfl rfl)) (GR_cons rfl rfl rfl rfl ((by first | exact V_field rfl rfl fo_175_2 | exact V_fieldA rfl rfl fo_175_2)) (GR_cons rfl rfl rfl rfl (V_load rfl rfl ag_36 (CellAt.item rfl)) (GR_nil)))))) (fun b84 => ?_)
  refine GT_append (enc := eDsc) (l := l) (m := [⟨l.length + 1, a, b, ti, hd, p, decide (m.hold ≤ hd)⟩]) rfl rfl rfl rfl rfl rfl rfl hh.own (fun w m => RdL.own' m eDsc_len) Tryz.underlying36 zc_47 sz_47 ⟨rfl, by decide⟩ by_47 ⟨by simp only [List.length_singleton]; omega, by simp only [List.length_singleton]; omega⟩ eDsc_len eDsc_one (fun _ _ _ _ => GR_cons rfl rfl rfl rfl (V_move rfl rfl) (GR_nil)) (fun A3 c3 I3 hO3 => ?_)
  refine GT_st rfl rfl rfl rfl (V_nilCheck rfl rfl) ?_;refine GT_st rfl rfl rfl rfl (V_field rfl rfl fo_175_2) ?_;refine GT_store (vs := [_]) rfl rfl rfl rfl rfl rfl rfl sz_36 rfl rfl (Nat.le_of_ble_eq_true rfl) rfl (GR_nil) ?_;refine GT_nil ?_;refine GE_seq ?_;refine GE_slots (L' := [(0, _), (4, _)]) ⟨rfl, rfl, trivial⟩ ?_;refine GE_drawn (.st 0 (.st 1 (.st 2 (.st 3 (.st 4 (.st 5 (.st 6 (.st 7 (.st 8 (.st 9 (.st 10 (.ld 11 [] .nil)))))))))))) [11] (by decide +kernel) ?_;refine GT_st rfl rfl rfl rfl (V_move rfl rfl) ?_;refine GT_st rfl rfl rfl rfl (V_nilCheck rfl rfl) ?_;refine GT_st rfl rfl rfl rfl (V_field rfl rfl fo_175_3) ?_;refine GT_st rfl rfl rfl rfl (V_load rfl rfl ag_171 (CellAt.item rfl)) ?_;refine GT_st rfl rfl rfl rfl (V_move rfl rfl) ?_;refine GT_st rfl rfl rfl rfl (V_nilCheck rfl rfl) ?_;refine GT_st rfl rfl rfl rfl (V_field rfl rfl fo_175_0) ?_;refine GT_st rfl rfl rfl rfl (V_field rfl rfl fo_173_7) ?_;refine GT_st rfl rfl rfl rfl (V_load rfl rfl ag_2 (CellAt.item rfl)) ?_;refine GT_st rfl rfl rfl rfl (V_lookupM (q := a) (z := (0 : Int)) hh.map keyJ rfl rfl rfl rfl Tryz.underlying171 zvJ) ?_;refine GT_st rfl rfl rfl rfl (V_add rfl rfl rfl (wrap_i64 (show -9223372036854775808 ≤ us f a + 1 ∧ us f a + 1 ≤ 9223372036854775807 by omega))) ?_;refine GT_mapUpdateM (q := a) (v := us f a + 1) hh.map keyJ rfl rfl rfl rfl rfl rfl rfl rfl rfl Tryz.underlying171 (fun _ => GR_nil) (fun ob' hob' => ?_)
  refine GT_nil ?_;refine GE_seq ?_;refine GE_slots (L' := [(0, _), (4, _)]) ⟨rfl, rfl, trivial⟩ ?_;refine GE_drawn (.st 0 (.st 1 (.st 2 (.st 3 (.st 4 (.st 5 (.st 6 (.st 7 (.st 8 (.st 9 (.st 10 (.ld 11 [] .nil)))))))))))) [11] (by decide +kernel) ?_;refine GT_st rfl rfl rfl rfl (V_move rfl rfl) ?_;refine GT_st rfl rfl rfl rfl (V_nilCheck rfl rfl) ?_;refine GT_st rfl rfl rfl rfl (V_field rfl rfl fo_175_3) ?_;refine GT_st rfl rfl rfl rfl (V_load rfl rfl ag_171 (CellAt.item rfl)) ?_;refine GT_st rfl rfl rfl rfl (V_move rfl rfl) ?_;refine GT_st rfl rfl rfl rfl (V_nilCheck rfl rfl) ?_;refine GT_st rfl rfl rfl rfl (V_field rfl rfl fo_175_0) ?_;refine GT_st rfl rfl rfl rfl (V_field rfl rfl fo_173_8) ?_;refine GT_st rfl rfl rfl rfl (V_load rfl rfl ag_2 (CellAt.item rfl)) ?_;refine GT_st rfl rfl rfl rfl (V_lookupM (q := b) (z := (0 : Int)) hob' keyJ rfl rfl rfl rfl Tryz.underlying171 zvJ) ?_;refine GT_st rfl rfl rfl rfl (V_add rfl rfl rfl (wrap_i64 (show -9223372036854775808 ≤ us (bump f a) b + 1 ∧ us (bump f a) b + 1 ≤ 9223372036854775807 by omega))) ?_;refine GT_mapUpdateM (q := b) (v := us (bump f a) b + 1) hob' keyJ rfl rfl rfl rfl rfl rfl rfl rfl rfl Tryz.underlying171 (fun _ => GR_nil) (fun ob2 hob2 => ?_)
  refine GT_nil ?_;refine GE_seq ?_;refine GE_slots (L' := [(0, _), (4, _)]) ⟨rfl, rfl, trivial⟩ ?_;refine GE_plain (.st 0 (.st 1 (.st 2 (.st 3 (.st 4 (.ld 5 [] (.st 6 (.st 7 (.st 8 (.ld 9 [] .nil)))))))))) rfl ?_;refine GT_st rfl rfl rfl rfl (V_move rfl rfl) ?_;refine GT_st rfl rfl rfl rfl (V_move rfl rfl) ?_;refine GT_st rfl rfl rfl rfl (V_nilCheck rfl rfl) ?_;refine GT_st rfl rfl rfl rfl (V_field rfl rfl fo_175_0) ?_;refine GT_st rfl rfl rfl rfl (V_field rfl rfl fo_173_0) ?_;refine GT_store (vs := [_]) rfl rfl rfl rfl rfl rfl rfl sz_4 rfl rfl (Nat.le_of_ble_eq_true rfl) rfl (GR_nil) ?_;refine GT_st rfl rfl rfl rfl (V_nilCheck rfl rfl) ?_;refine GT_st rfl rfl rfl rfl (V_field rfl rfl fo_175_0) ?_;refine GT_st rfl rfl rfl rfl (V_field rfl rfl fo_173_1) ?_;refine GT_store (vs := [_]) rfl rfl rfl rfl rfl rfl rfl sz_4 rfl rfl (Nat.le_of_ble_eq_true rfl) rfl (GR_nil) ?_;refine GT_nil ?_;refine GE_seq ?_;refine GE_slots (L' := [(4, _)]) ⟨rfl, trivial⟩ ?_;refine GE_plain (.st 0 (.ld 1 [] (.st 2 .nil))) rfl ?_;refine GT_st rfl rfl rfl rfl (V_loadN (vs := [_, _, _, _, _, _, _]) rfl rfl ag_47 sz_47 rfl (CellsAt.item rfl)) ?_;refine GT_store (vs := [_, _, _, _, _, _, _]) (l' := [_, _, _, _, _, _, _]) rfl rfl rfl rfl rfl rfl rfl sz_47 rfl rfl (Nat.le_of_ble_eq_true rfl) rfl (GR_nil) ?_;refine GT_st rfl rfl rfl rfl (V_assign rfl rfl) ?_;refine GT_nil ?_;refine GE_ret Tryz.func72 ⟨_, _, ⟨_, rfl, fun w m => run_loadVar_agg (vs := [_, _, _, _, _, _, _]) ag_47 sz_47 rfl (fun j v hj => CellsAt.item rfl j v hj w m)⟩, rfl, rfl⟩ (fun w hw => ?_)
  exact ⟨(A3, c3, I3, ob2), ⟨hO3, hob2⟩, rfl, hw.hs (C := cx Tryz.prog hm 0 0 w0 none' fun _ _ => True) (HS.cons rfl (HS.cons rfl (HS.chunk HS.last)))⟩
end
end Go.Proofs.YtpbflnfcgcldkaaGreatDoor.Prs
/- A press does an act; what it tells, walked. -/
namespace Go.Proofs.YtpbflnfcgcldkaaGreatDoor.Prs
open Go.Sx Go.Proofs Go.RowKit
open Side (eN eN_len eN_one getD_memT sh_trans)
abbrev fnV (i : Nat) : Value := .func (.func i) #[] #[]
abbrev actsL : List Value := [.nilFunc, fnV 67, fnV 68, fnV 69, fnV 70, fnV 71, fnV 72]
def cO (x : Int) : List Dsc → Nat
  | [] => 0
  | d :: l => (if d.a = x ∨ d.b = x then 1 else 0) + cO x l
theorem cO_snoc (x : Int) (d : Dsc) : ∀ l, cO x (l ++ [d]) = cO x l + if d.a = x ∨ d.b = x then 1 else 0
  | [] => by simp [cO]
  | y :: l => by rw [List.cons_append, cO, cO, cO_snoc x d l]; omega
theorem cO_le (x : Int) : ∀ l, cO x l ≤ l.length
  | [] => Nat.le_refl _
  | y :: l => by rw [cO, List.length_cons]; have := cO_le x l; split <;> omega
theorem CellsAt.blkQ {C : Cx} {H : Items} {g q : Nat} {cs vs : List Value} {t : TypeId} (h : BlkAt C.w0 g cs t) (hM : ¬ C.M g) (hv : (cs.drop q).take vs.length = vs) : CellsAt C H ⟨g, q, none⟩ vs := fun i v hi => by
  have h1 : cs[q + i]? = some v := by
    rw [← hv, List.getElem?_take] at hi
    split at hi
    · rwa [List.getElem?_drop] at hi
    · cases hi
  rw [add_lit]; exact CellAt.old (h.cell h1) hM
section
variable {w w0 : World} {l l' : List Dsc} {f f' : Int → Option Int} {G : Items} {s s' : PS} {m : Mch} {h : Ph} {k fi p : Nat} {x y e : Int} {dv : Dsc}
set_option maxRecDepth 20000 in
set_option maxHeartbeats 1000000 in
theorem C_DoOk (hk : 1 ≤ k ∧ k ≤ 6) (hf : actsL[k]? = some (fnV fi)) (hrun : runs Tryz.prog fi = true) (hA : ActC fi (.agg #[I k, I x, I y]) m s l f 0 dv s' l' f') (hl : l.length ≤ 100000)
    (m0 : SH w0 none' ((p, blk [ptr h.b 0] 177) :: h.W s m l.length G) w) (hh : PhOk l f h) :
    Ret Tryz.prog 25 [ptr p 0, .agg #[I k, I x, I y]].toArray w fun v w' => ∃ z : Ph, PhOk l' f' z ∧ v = .tuple #[dv.val, I 0] ∧ SH w0 none' ((p, blk [ptr z.b 0] 177) :: z.W s' m l'.length G) w' := by
  refine Ret_ofH (vs := [_, _]) hm none' Tryz.func25 rfl Tryz.ntmps25 rfl m0 ?_
  dsimp only [slotsOf]
  refine GE_seq ?_;refine GE_plain (.ld 0 [] (.ld 1 [] (.st 2 .nil))) rfl ?_;refine GT_box (z := [_, _, _]) rfl rfl rfl rfl rfl rfl rfl (fun _ => GR_nil) (fun b3 => ?_)
  refine GT_alloc rfl rfl rfl rfl rfl zc_47 (fun _ => GR_nil) (fun b4 => ?_)
  refine GT_st rfl rfl rfl rfl (V_assign rfl rfl) ?_;refine GT_nil ?_;refine GE_seq ?_;refine GE_seq ?_;refine GE_plain (.st 0 (.st 1 (.st 2 (.st 3 (.st 4 (.st 5 (.st 6 (.st 7 (.st 8 .nil))))))))) rfl ?_;refine GT_st rfl rfl rfl rfl (V_move rfl rfl) ?_;refine GT_st rfl rfl rfl rfl (V_eqlNilPtr rfl rfl rfl Tryz.underlying63) ?_;refine GT_st rfl rfl rfl rfl (V_move rfl rfl) ?_;refine GT_st_g rfl rfl rfl rfl rfl rfl rfl (V_move rfl rfl) ?_;refine GT_st_g rfl rfl rfl rfl rfl rfl rfl (V_nilCheck rfl rfl) ?_;refine GT_st_g rfl rfl rfl rfl rfl rfl rfl (V_field rfl rfl fo_177_0) ?_;refine GT_st_g rfl rfl rfl rfl rfl rfl rfl (V_load rfl rfl ag_170 (CellAt.item rfl)) ?_;refine GT_st_g rfl rfl rfl rfl rfl rfl rfl (V_eqlNilPtr rfl rfl rfl Tryz.underlying170) ?_;refine GT_st rfl rfl rfl rfl (V_pick_f rfl rfl rfl) ?_;refine GT_nil ?_;refine GE_cond_f rfl ?_;refine GE_skip ?_;refine GE_seq ?_;refine GE_slots (L' := [(0, _), (3, _), (4, _)]) ⟨rfl, rfl, rfl, trivial⟩ ?_;refine GE_plain (.st 0 (.ld 1 [] (.ld 2 [] .nil))) rfl ?_;refine GT_st rfl rfl rfl rfl (V_build (vs := [_, _, _, _, _, _, _]) rfl rfl zc_179 pl_179 sa_179 rfl) ?_;refine GT_alloc rfl rfl rfl rfl rfl zc_179 (fun _ => GR_nil) (fun b6 => ?_)
  refine GT_store (vs := [_, _, _, _, _, _, _]) (l' := [_, _, _, _, _, _, _]) rfl rfl rfl rfl rfl rfl rfl sz_179 rfl rfl (Nat.le_of_ble_eq_true rfl) rfl (GR_nil) ?_;refine GT_nil ?_;refine GE_seq ?_;refine GE_seq ?_;refine GE_plain (.st 0 (.st 1 (.st 2 (.st 3 (.st 4 (.st 5 (.st 6 (.st 7 .nil)))))))) rfl ?_;refine GT_st rfl rfl rfl rfl (V_field rfl rfl fo_71_0) ?_;refine GT_st rfl rfl rfl rfl (V_load rfl rfl ag_3 (CellAt.item rfl)) ?_;refine GT_st rfl rfl rfl rfl (V_isF (V_lss rfl rfl rfl) (by omega)) ?_;refine GT_st rfl rfl rfl rfl (V_move rfl rfl) ?_;refine GT_st_g rfl rfl rfl rfl rfl rfl rfl (V_field rfl rfl fo_71_0) ?_;refine GT_st_g rfl rfl rfl rfl rfl rfl rfl (V_load rfl rfl ag_3 (CellAt.item rfl)) ?_;refine GT_st_g rfl rfl rfl rfl rfl rfl rfl (V_isF (V_gtr rfl rfl rfl) (by omega)) ?_;refine GT_st rfl rfl rfl rfl (V_pick_f rfl rfl rfl) ?_;refine GT_nil ?_;refine GE_cond_f rfl ?_;refine GE_skip ?_;refine GE_seq ?_;refine GE_slots (L' := [(0, _), (3, _), (4, _), (6, _)]) ⟨rfl, rfl, rfl, rfl, trivial⟩ ?_;refine GE_plain (.st 0 (.st 1 (.st 2 (.st 3 (.ld 4 [] (.st 5 .nil)))))) rfl ?_;refine GT_st rfl rfl rfl rfl (V_move rfl rfl) ?_;refine GT_st rfl rfl rfl rfl (V_nilCheck rfl rfl) ?_;refine GT_st rfl rfl rfl rfl (V_field rfl rfl fo_177_0) ?_;refine GT_st rfl rfl rfl rfl (V_load rfl rfl ag_170 (CellAt.item rfl)) ?_;refine GT_callX rfl rfl rfl rfl rfl rfl rfl rfl rn_73 (fun w m9 => C_copy (s := s) (m := m) (l := l) (f := f) (h := h) (G := (p, blk [ptr h.b 0] 177) :: (b3, blk [I k, I x, I y] 71) :: (b4, blk (eDsc d0) 47) :: (b6, blk actsL 179) :: G) (m9.hs (C := cx Tryz.prog hm 0 0 w0 none' fun _ _ => True) (HS.cons rfl (HS.cons rfl (HS.chunk (HS.cons rfl (HS.cons rfl (HS.cons rfl (HS.cons rfl HS.last)))))))) hh hl) (fun _ _ => GR_nil) (fun z hz => ?_)
  refine GT_st rfl rfl rfl rfl (V_assign rfl rfl) ?_;refine GT_nil ?_;refine GE_cut (ι := Nat × (Option Addr × Nat × Items × Obj)) (fun q => [(0, ptr p 0), (4, ptr b4 0), (7, ptr z.b 0), (8, ptr q.1 0), (9, I 0)]) (fun q => (p, blk [ptr h.b 0] 177) :: (b4, blk (eDsc d0) 47) :: (q.1, blk (eDsc dv) 47) :: (z.b, wkB s' m q.2.1 l'.length q.2.2.1 z.r) :: (z.r, q.2.2.2.2) :: (q.2.2.2.1 ++ G)) (fun q => PhOk l' f' ⟨z.b, q.2.1, q.2.2.1, q.2.2.2.1, z.r, q.2.2.2.2⟩) ?_ (fun hk' => ?_)
  · rintro ⟨b8, A8, c8, I8, ob8⟩ hq; dsimp only at hq ⊢
    refine GE_seq ?_;refine GE_seq ?_;refine GE_plain (.st 0 (.st 1 .nil)) rfl ?_;refine GT_st rfl rfl rfl rfl (V_move rfl rfl) ?_;refine GT_st rfl rfl rfl rfl (V_isF (V_neq rfl rfl rfl) (fun q => q rfl)) ?_;refine GT_nil ?_;refine GE_cond_f rfl ?_;refine GE_skip ?_;refine GE_seq ?_;refine GE_plain (.st 0 (.st 1 (.st 2 (.st 3 (.ld 4 [] .nil))))) rfl ?_;refine GT_st rfl rfl rfl rfl (V_move rfl rfl) ?_;refine GT_st rfl rfl rfl rfl (V_move rfl rfl) ?_;refine GT_st rfl rfl rfl rfl (V_nilCheck rfl rfl) ?_;refine GT_st rfl rfl rfl rfl (V_field rfl rfl fo_177_0) ?_;refine GT_store (vs := [_]) rfl rfl rfl rfl rfl rfl rfl sz_170 rfl rfl (Nat.le_of_ble_eq_true rfl) rfl (GR_nil) ?_;refine GT_nil ?_;refine GE_seq ?_;refine GE_slots (L' := [(4, _), (8, _)]) ⟨rfl, rfl, trivial⟩ ?_;refine GE_plain (.st 0 (.ld 1 [] (.st 2 .nil))) rfl ?_;refine GT_st rfl rfl rfl rfl (V_loadN (vs := [_, _, _, _, _, _, _]) rfl rfl ag_47 sz_47 rfl (CellsAt.item rfl)) ?_;refine GT_store (vs := [_, _, _, _, _, _, _]) (l' := [_, _, _, _, _, _, _]) rfl rfl rfl rfl rfl rfl rfl sz_47 rfl rfl (Nat.le_of_ble_eq_true rfl) rfl (GR_nil) ?_;refine GT_st rfl rfl rfl rfl (V_assign rfl rfl) ?_;refine GT_nil ?_;refine GE_ret Tryz.func25 ⟨_, _, ⟨_, rfl, fun w m => run_loadVar_agg (vs := [_, _, _, _, _, _, _]) ag_47 sz_47 rfl (fun j v hj => CellsAt.item rfl j v hj w m)⟩, rfl, rfl⟩ (fun w hw => ?_)
    exact ⟨⟨z.b, A8, c8, I8, z.r, ob8⟩, hq, rfl, hw.hs (C := cx Tryz.prog hm 0 0 w0 none' fun _ _ => True) (HS.cons rfl (HS.cons rfl (HS.cons rfl (HS.chunk HS.last))))⟩
  · refine GE_slots (L' := [(0, _), (3, _), (4, _), (6, _), (7, _)]) ⟨rfl, rfl, rfl, rfl, rfl, trivial⟩ ?_;refine GE_drawn (.st 0 (.st 1 (.st 2 (.st 3 (.st 4 (.st 5 (.br (.ld 6 [] (.st 7 (.st 8 (.st 9 (.ld 10 [0, 1, 2, 3, 4, 5, 7, 8, 9] (.ld 11 [9] (.st 12 .nil))))))) (.ld 10 [0, 1, 2, 3, 4, 5] (.ld 6 [] (.st 7 (.st 8 (.st 9 (.ld 11 [9] (.st 12 .nil)))))))))))))) [6, 10, 11] (by decide +kernel) ?_;refine GT_st rfl rfl rfl rfl (V_field rfl rfl fo_71_0) ?_;refine GT_st rfl rfl rfl rfl (V_load rfl rfl ag_3 (CellAt.item rfl)) ?_;refine GT_st rfl rfl rfl rfl (V_indexArr rfl rfl rfl Tryz.underlying179 sz_178 (kk := k) rfl (by omega)) ?_;refine GT_st rfl rfl rfl rfl (V_load rfl rfl ag_178 (CellAt.item (by rw [show 0 + k * 1 = k by omega]; exact hf))) ?_;refine GT_st rfl rfl rfl rfl (V_move rfl rfl) ?_;refine GT_st rfl rfl rfl rfl (V_loadN (vs := [_, _, _]) rfl rfl ag_71 sz_71 rfl (CellsAt.item rfl)) ?_;refine GT_br ?_ ?_
    · refine GT_callX rfl rfl rfl rfl rfl rfl rfl rfl hrun (fun w m9 => hA w0 w z _ (m9.hs (C := cx Tryz.prog hm 0 0 w0 none' fun _ _ => True) (HS.cons rfl (HS.cons rfl (HS.chunk HS.all)))) hz) (fun _ _ => GR_nil) (fun u42 hu42 => ?_)
      refine GT_st rfl rfl rfl rfl (V_move rfl rfl) ?_;refine GT_st rfl rfl rfl rfl (V_extract rfl rfl rfl) ?_;refine GT_st rfl rfl rfl rfl (V_extract rfl rfl rfl) ?_;refine GT_alloc rfl rfl rfl rfl rfl zc_47 (fun _ => GR_cons rfl rfl rfl rfl ((by first | exact V_field rfl rfl fo_71_0 | exact V_fieldA rfl rfl fo_71_0)) (GR_cons rfl rfl rfl rfl (V_load rfl rfl ag_3 (CellAt.item rfl)) (GR_cons rfl rfl rfl rfl ((by first | exact V_indexArr rfl rfl rfl Tryz.underlying179 sz_178 (kk := k) rfl (by omega) | exact V_indexArrA rfl rfl rfl Tryz.underlying179 sz_178 (kk := k) rfl (by omega))) (GR_cons rfl rfl rfl rfl (V_load rfl rfl ag_178 (CellAt.item (by rw [show 0 + k * 1 = k by omega]; exact hf))) (GR_cons rfl rfl rfl rfl (V_move rfl rfl) (GR_cons rfl rfl rfl rfl (V_loadN (vs := [_, _, _]) rfl rfl ag_71 sz_71 rfl (CellsAt.item rfl)) (GR_cons rfl rfl rfl rfl (V_move rfl rfl) (GR_cons rfl rfl rfl rfl (V_extract rfl rfl rfl) (GR_cons rfl rfl rfl rfl (V_extract rfl rfl rfl) (GR_nil)))))))))) (fun b8 => ?_)
      refine GT_store (vs := [_, _, _, _, _, _, _]) (l' := [_, _, _, _, _, _, _]) rfl rfl rfl rfl rfl rfl rfl sz_47 rfl rfl (Nat.le_of_ble_eq_true rfl) rfl (GR_cons rfl rfl rfl rfl (V_extract rfl rfl rfl) (GR_nil)) ?_;refine GT_st rfl rfl rfl rfl (V_assign rfl rfl) ?_;refine GT_nil ?_
      exact GE_to (hk' (b8, u42) hu42) ⟨rfl, rfl, rfl, rfl, rfl, trivial⟩ (HS.cons rfl (HS.cons rfl (HS.cons rfl (HS.cons rfl (HS.cons rfl (HS.chunk HS.last))))))
    · refine GT_alloc rfl rfl rfl rfl rfl zc_47 (fun _ => GR_cons rfl rfl rfl rfl ((by first | exact V_field rfl rfl fo_71_0 | exact V_fieldA rfl rfl fo_71_0)) (GR_cons rfl rfl rfl rfl (V_load rfl rfl ag_3 (CellAt.item rfl)) (GR_cons rfl rfl rfl rfl ((by first | exact V_indexArr rfl rfl rfl Tryz.underlying179 sz_178 (kk := k) rfl (by omega) | exact V_indexArrA rfl rfl rfl Tryz.underlying179 sz_178 (kk := k) rfl (by omega))) (GR_cons rfl rfl rfl rfl (V_load rfl rfl ag_178 (CellAt.item (by rw [show 0 + k * 1 = k by omega]; exact hf))) (GR_cons rfl rfl rfl rfl (V_move rfl rfl) (GR_cons rfl rfl rfl rfl (V_loadN (vs := [_, _, _]) rfl rfl ag_71 sz_71 rfl (CellsAt.item rfl)) (GR_nil))))))) (fun b8 => ?_)
      refine GT_callX rfl rfl rfl rfl rfl rfl rfl rfl hrun (fun w m9 => hA w0 w z _ (m9.hs (C := cx Tryz.prog hm 0 0 w0 none' fun _ _ => True) (HS.cons rfl (HS.cons rfl (HS.chunk HS.all)))) hz) (fun _ _ => GR_nil) (fun u42 hu42 => ?_)
      refine GT_st rfl rfl rfl rfl (V_move rfl rfl) ?_;refine GT_st rfl rfl rfl rfl (V_extract rfl rfl rfl) ?_;refine GT_st rfl rfl rfl rfl (V_extract rfl rfl rfl) ?_;refine GT_store (vs := [_, _, _, _, _, _, _]) (l' := [_, _, _, _, _, _, _]) rfl rfl rfl rfl rfl rfl rfl sz_47 rfl rfl (Nat.le_of_ble_eq_true rfl) rfl (GR_cons rfl rfl rfl rfl (V_extract rfl rfl rfl) (GR_nil)) ?_;refine GT_st rfl rfl rfl rfl (V_assign rfl rfl) ?_;refine GT_nil ?_
      exact GE_to (hk' (b8, u42) hu42) ⟨rfl, rfl, rfl, rfl, rfl, trivial⟩ (HS.cons rfl (HS.cons rfl (HS.cons rfl (HS.cons rfl (HS.cons rfl (HS.chunk HS.last))))))
set_option maxRecDepth 20000 in
set_option maxHeartbeats 1000000 in
theorem C_DoErr (hk : 1 ≤ k ∧ k ≤ 6) (hf : actsL[k]? = some (fnV fi)) (hrun : runs Tryz.prog fi = true) (hA : ActC fi (.agg #[I k, I x, I y]) m s l f e dv s' l' f') (he : e ≠ 0) (hl : l.length ≤ 100000)
    (m0 : SH w0 none' ((p, blk [ptr h.b 0] 177) :: h.W s m l.length G) w) (hh : PhOk l f h) :
    Ret Tryz.prog 25 [ptr p 0, .agg #[I k, I x, I y]].toArray w fun v w' => ∃ _ : Unit, True ∧ v = .tuple #[d0.val, I e] ∧ SH w0 none' ((p, blk [ptr h.b 0] 177) :: h.W s m l.length G) w' := by
  refine Ret_ofH (vs := [_, _]) hm none' Tryz.func25 rfl Tryz.ntmps25 rfl m0 ?_
  dsimp only [slotsOf]
  refine GE_seq ?_;refine GE_plain (.ld 0 [] (.ld 1 [] (.st 2 .nil))) rfl ?_;refine GT_box (z := [_, _, _]) rfl rfl rfl rfl rfl rfl rfl (fun _ => GR_nil) (fun b3 => ?_)
  refine GT_alloc rfl rfl rfl rfl rfl zc_47 (fun _ => GR_nil) (fun b4 => ?_)
  refine GT_st rfl rfl rfl rfl (V_assign rfl rfl) ?_;refine GT_nil ?_;refine GE_seq ?_;refine GE_seq ?_;refine GE_plain (.st 0 (.st 1 (.st 2 (.st 3 (.st 4 (.st 5 (.st 6 (.st 7 (.st 8 .nil))))))))) rfl ?_;refine GT_st rfl rfl rfl rfl (V_move rfl rfl) ?_;refine GT_st rfl rfl rfl rfl (V_eqlNilPtr rfl rfl rfl Tryz.underlying63) ?_;refine GT_st rfl rfl rfl rfl (V_move rfl rfl) ?_;refine GT_st_g rfl rfl rfl rfl rfl rfl rfl (V_move rfl rfl) ?_;refine GT_st_g rfl rfl rfl rfl rfl rfl rfl (V_nilCheck rfl rfl) ?_;refine GT_st_g rfl rfl rfl rfl rfl rfl rfl (V_field rfl rfl fo_177_0) ?_;refine GT_st_g rfl rfl rfl rfl rfl rfl rfl (V_load rfl rfl ag_170 (CellAt.item rfl)) ?_;refine GT_st_g rfl rfl rfl rfl rfl rfl rfl (V_eqlNilPtr rfl rfl rfl Tryz.underlying170) ?_;refine GT_st rfl rfl rfl rfl (V_pick_f rfl rfl rfl) ?_;refine GT_nil ?_;refine GE_cond_f rfl ?_;refine GE_skip ?_;refine GE_seq ?_;refine GE_slots (L' := [(0, _), (3, _), (4, _)]) ⟨rfl, rfl, rfl, trivial⟩ ?_;refine GE_plain (.st 0 (.ld 1 [] (.ld 2 [] .nil))) rfl ?_;refine GT_st rfl rfl rfl rfl (V_build (vs := [_, _, _, _, _, _, _]) rfl rfl zc_179 pl_179 sa_179 rfl) ?_;refine GT_alloc rfl rfl rfl rfl rfl zc_179 (fun _ => GR_nil) (fun b6 => ?_)
  refine GT_store (vs := [_, _, _, _, _, _, _]) (l' := [_, _, _, _, _, _, _]) rfl rfl rfl rfl rfl rfl rfl sz_179 rfl rfl (Nat.le_of_ble_eq_true rfl) rfl (GR_nil) ?_;refine GT_nil ?_;refine GE_seq ?_;refine GE_seq ?_;refine GE_plain (.st 0 (.st 1 (.st 2 (.st 3 (.st 4 (.st 5 (.st 6 (.st 7 .nil)))))))) rfl ?_;refine GT_st rfl rfl rfl rfl (V_field rfl rfl fo_71_0) ?_;refine GT_st rfl rfl rfl rfl (V_load rfl rfl ag_3 (CellAt.item rfl)) ?_;refine GT_st rfl rfl rfl rfl (V_isF (V_lss rfl rfl rfl) (by omega)) ?_;refine GT_st rfl rfl rfl rfl (V_move rfl rfl) ?_;refine GT_st_g rfl rfl rfl rfl rfl rfl rfl (V_field rfl rfl fo_71_0) ?_;refine GT_st_g rfl rfl rfl rfl rfl rfl rfl (V_load rfl rfl ag_3 (CellAt.item rfl)) ?_;refine GT_st_g rfl rfl rfl rfl rfl rfl rfl (V_isF (V_gtr rfl rfl rfl) (by omega)) ?_;refine GT_st rfl rfl rfl rfl (V_pick_f rfl rfl rfl) ?_;refine GT_nil ?_;refine GE_cond_f rfl ?_;refine GE_skip ?_;refine GE_seq ?_;refine GE_slots (L' := [(0, _), (3, _), (4, _), (6, _)]) ⟨rfl, rfl, rfl, rfl, trivial⟩ ?_;refine GE_plain (.st 0 (.st 1 (.st 2 (.st 3 (.ld 4 [] (.st 5 .nil)))))) rfl ?_;refine GT_st rfl rfl rfl rfl (V_move rfl rfl) ?_;refine GT_st rfl rfl rfl rfl (V_nilCheck rfl rfl) ?_;refine GT_st rfl rfl rfl rfl (V_field rfl rfl fo_177_0) ?_;refine GT_st rfl rfl rfl rfl (V_load rfl rfl ag_170 (CellAt.item rfl)) ?_;refine GT_callX rfl rfl rfl rfl rfl rfl rfl rfl rn_73 (fun w m9 => C_copy (s := s) (m := m) (l := l) (f := f) (h := h) (G := (p, blk [ptr h.b 0] 177) :: (b3, blk [I k, I x, I y] 71) :: (b4, blk (eDsc d0) 47) :: (b6, blk actsL 179) :: G) (m9.hs (C := cx Tryz.prog hm 0 0 w0 none' fun _ _ => True) (HS.cons rfl (HS.cons rfl (HS.chunk (HS.cons rfl (HS.cons rfl (HS.cons rfl (HS.cons rfl HS.last)))))))) hh hl) (fun _ _ => GR_nil) (fun z hz => ?_)
  refine GT_st rfl rfl rfl rfl (V_assign rfl rfl) ?_;refine GT_nil ?_;refine GE_cut (ι := Nat) (fun q => [(0, ptr p 0), (4, ptr b4 0), (7, ptr z.b 0), (8, ptr q 0), (9, I e)]) (fun q => (p, blk [ptr h.b 0] 177) :: (b4, blk (eDsc d0) 47) :: h.W s m l.length G) (fun q => True) ?_ (fun hk' => ?_)
  · intro b8 _
    refine GE_seq ?_;refine GE_seq ?_;refine GE_plain (.st 0 (.st 1 .nil)) rfl ?_;refine GT_st rfl rfl rfl rfl (V_move rfl rfl) ?_;refine GT_st rfl rfl rfl rfl (V_isT (V_neq rfl rfl rfl) he) ?_;refine GT_nil ?_;refine GE_cond_t rfl ?_;refine GE_seq ?_;refine GE_slots (L' := [(4, _), (9, _)]) ⟨rfl, rfl, trivial⟩ ?_;refine GE_plain (.st 0 (.st 1 (.ld 2 [] (.st 3 .nil)))) rfl ?_;refine GT_st rfl rfl rfl rfl (V_build (vs := [_, _, _, _, _, _, _]) rfl rfl zc_47 pl_47 sa_47 rfl) ?_;refine GT_st rfl rfl rfl rfl (V_move rfl rfl) ?_;refine GT_store (vs := [_, _, _, _, _, _, _]) (l' := [_, _, _, _, _, _, _]) rfl rfl rfl rfl rfl rfl rfl sz_47 rfl rfl (Nat.le_of_ble_eq_true rfl) rfl (GR_nil) ?_;refine GT_st rfl rfl rfl rfl (V_assign rfl rfl) ?_;refine GT_nil ?_;refine GE_ret Tryz.func25 ⟨_, _, ⟨_, rfl, fun w m => run_loadVar_agg (vs := [_, _, _, _, _, _, _]) ag_47 sz_47 rfl (fun j v hj => CellsAt.item rfl j v hj w m)⟩, rfl, rfl⟩ (fun w hw => ?_)
    exact ⟨(), trivial, rfl, hw.hs (C := cx Tryz.prog hm 0 0 w0 none' fun _ _ => True) (HS.cons rfl (HS.cons rfl (HS.cons rfl (HS.chunk HS.last))))⟩
  · refine GE_slots (L' := [(0, _), (3, _), (4, _), (6, _), (7, _)]) ⟨rfl, rfl, rfl, rfl, rfl, trivial⟩ ?_;refine GE_drawn (.st 0 (.st 1 (.st 2 (.st 3 (.st 4 (.st 5 (.br (.ld 6 [] (.st 7 (.st 8 (.st 9 (.ld 10 [0, 1, 2, 3, 4, 5, 7, 8, 9] (.ld 11 [9] (.st 12 .nil))))))) (.ld 10 [0, 1, 2, 3, 4, 5] (.ld 6 [] (.st 7 (.st 8 (.st 9 (.ld 11 [9] (.st 12 .nil)))))))))))))) [6, 10, 11] (by decide +kernel) ?_;refine GT_st rfl rfl rfl rfl (V_field rfl rfl fo_71_0) ?_;refine GT_st rfl rfl rfl rfl (V_load rfl rfl ag_3 (CellAt.item rfl)) ?_;refine GT_st rfl rfl rfl rfl (V_indexArr rfl rfl rfl Tryz.underlying179 sz_178 (kk := k) rfl (by omega)) ?_;refine GT_st rfl rfl rfl rfl (V_load rfl rfl ag_178 (CellAt.item (by rw [show 0 + k * 1 = k by omega]; exact hf))) ?_;refine GT_st rfl rfl rfl rfl (V_move rfl rfl) ?_;refine GT_st rfl rfl rfl rfl (V_loadN (vs := [_, _, _]) rfl rfl ag_71 sz_71 rfl (CellsAt.item rfl)) ?_;refine GT_br ?_ ?_
    · refine GT_callX rfl rfl rfl rfl rfl rfl rfl rfl hrun (fun w m9 => hA w0 w z _ (m9.hs (C := cx Tryz.prog hm 0 0 w0 none' fun _ _ => True) (HS.cons rfl (HS.cons rfl (HS.chunk HS.all)))) hz) (fun _ _ => GR_nil) (fun u42 hu42 => ?_)
      refine GT_st rfl rfl rfl rfl (V_move rfl rfl) ?_;refine GT_st rfl rfl rfl rfl (V_extract rfl rfl rfl) ?_;refine GT_st rfl rfl rfl rfl (V_extract rfl rfl rfl) ?_;refine GT_alloc rfl rfl rfl rfl rfl zc_47 (fun _ => GR_cons rfl rfl rfl rfl ((by first | exact V_field rfl rfl fo_71_0 | exact V_fieldA rfl rfl fo_71_0)) (GR_cons rfl rfl rfl rfl (V_load rfl rfl ag_3 (CellAt.item rfl)) (GR_cons rfl rfl rfl rfl ((by first | exact V_indexArr rfl rfl rfl Tryz.underlying179 sz_178 (kk := k) rfl (by omega) | exact V_indexArrA rfl rfl rfl Tryz.underlying179 sz_178 (kk := k) rfl (by omega))) (GR_cons rfl rfl rfl rfl (V_load rfl rfl ag_178 (CellAt.item (by rw [show 0 + k * 1 = k by omega]; exact hf))) (GR_cons rfl rfl rfl rfl (V_move rfl rfl) (GR_cons rfl rfl rfl rfl (V_loadN (vs := [_, _, _]) rfl rfl ag_71 sz_71 rfl (CellsAt.item rfl)) (GR_cons rfl rfl rfl rfl (V_move rfl rfl) (GR_cons rfl rfl rfl rfl (V_extract rfl rfl rfl) (GR_cons rfl rfl rfl rfl (V_extract rfl rfl rfl) (GR_nil)))))))))) (fun b8 => ?_)
      refine GT_store (vs := [_, _, _, _, _, _, _]) (l' := [_, _, _, _, _, _, _]) rfl rfl rfl rfl rfl rfl rfl sz_47 rfl rfl (Nat.le_of_ble_eq_true rfl) rfl (GR_cons rfl rfl rfl rfl (V_extract rfl rfl rfl) (GR_nil)) ?_;refine GT_st rfl rfl rfl rfl (V_assign rfl rfl) ?_;refine GT_nil ?_
      exact GE_to (hk' b8 trivial) ⟨rfl, rfl, rfl, rfl, rfl, trivial⟩ (HS.cons rfl (HS.cons rfl (HS.cons rfl (HS.cons rfl (HS.chunk HS.last)))))
    · refine GT_alloc rfl rfl rfl rfl rfl zc_47 (fun _ => GR_cons rfl rfl rfl rfl ((by first | exact V_field rfl rfl fo_71_0 | exact V_fieldA rfl rfl fo_71_0)) (GR_cons rfl rfl rfl rfl (V_load rfl rfl ag_3 (CellAt.item rfl)) (GR_cons rfl rfl rfl rfl ((by first | exact V_indexArr rfl rfl rfl Tryz.underlying179 sz_178 (kk := k) rfl (by omega) | exact V_indexArrA rfl rfl rfl Tryz.underlying179 sz_178 (kk := k) rfl (by omega))) (GR_cons rfl rfl rfl rfl (V_load rfl rfl ag_178 (CellAt.item (by rw [show 0 + k * 1 = k by omega]; exact hf))) (GR_cons rfl rfl rfl rfl (V_move rfl rfl) (GR_cons rfl rfl rfl rfl (V_loadN (vs := [_, _, _]) rfl rfl ag_71 sz_71 rfl (CellsAt.item rfl)) (GR_nil))))))) (fun b8 => ?_)
      refine GT_callX rfl rfl rfl rfl rfl rfl rfl rfl hrun (fun w m9 => hA w0 w z _ (m9.hs (C := cx Tryz.prog hm 0 0 w0 none' fun _ _ => True) (HS.cons rfl (HS.cons rfl (HS.chunk HS.all)))) hz) (fun _ _ => GR_nil) (fun u42 hu42 => ?_)
      refine GT_st rfl rfl rfl rfl (V_move rfl rfl) ?_;refine GT_st rfl rfl rfl rfl (V_extract rfl rfl rfl) ?_;refine GT_st rfl rfl rfl rfl (V_extract rfl rfl rfl) ?_;refine GT_store (vs := [_, _, _, _, _, _, _]) (l' := [_, _, _, _, _, _, _]) rfl rfl rfl rfl rfl rfl rfl sz_47 rfl rfl (Nat.le_of_ble_eq_true rfl) rfl (GR_cons rfl rfl rfl rfl (V_extract rfl rfl rfl) (GR_nil)) ?_;refine GT_st rfl rfl rfl rfl (V_assign rfl rfl) ?_;refine GT_nil ?_
      exact GE_to (hk' b8 trivial) ⟨rfl, rfl, rfl, rfl, rfl, trivial⟩ (HS.cons rfl (HS.cons rfl (HS.cons rfl (HS.cons rfl (HS.chunk HS.last)))))
theorem C_State {r c n : Nat} {A : Option Addr} {b : Nat} (hp : BlkAt w p [ptr b 0] 177) (hb : BlkAt w b (wkC s m A n c r) 175) : Con0 Tryz.prog 74 [ptr p 0] w (.tuple #[s.val, I 0]) := by
  refine Ret_of (vs := [_]) hm none' Tryz.func74 rfl Tryz.ntmps74 rfl ?_
  dsimp only [slotsOf]
  refine GE_seq ?_;refine GE_plain (.ld 0 [] (.st 1 .nil)) rfl ?_;refine GT_alloc rfl rfl rfl rfl rfl zc_173 (fun _ => GR_nil) (fun b2 => ?_)
  refine GT_st rfl rfl rfl rfl (V_assign rfl rfl) ?_;refine GT_nil ?_;refine GE_seq ?_;refine GE_seq ?_;refine GE_plain (.st 0 (.st 1 (.st 2 (.st 3 (.st 4 (.st 5 (.st 6 (.st 7 (.st 8 .nil))))))))) rfl ?_;refine GT_st rfl rfl rfl rfl (V_move rfl rfl) ?_;refine GT_st rfl rfl rfl rfl (V_eqlNilPtr rfl rfl rfl Tryz.underlying63) ?_;refine GT_st rfl rfl rfl rfl (V_move rfl rfl) ?_;refine GT_st_g rfl rfl rfl rfl rfl rfl rfl (V_move rfl rfl) ?_;refine GT_st_g rfl rfl rfl rfl rfl rfl rfl (V_nilCheck rfl rfl) ?_;refine GT_st_g rfl rfl rfl rfl rfl rfl rfl (V_field rfl rfl fo_177_0) ?_;refine GT_st_g rfl rfl rfl rfl rfl rfl rfl (V_load rfl rfl ag_170 (CellAt.old (hp.cell rfl) (noM _))) ?_;refine GT_st_g rfl rfl rfl rfl rfl rfl rfl (V_eqlNilPtr rfl rfl rfl Tryz.underlying170) ?_;refine GT_st rfl rfl rfl rfl (V_pick_f rfl rfl rfl) ?_;refine GT_nil ?_;refine GE_cond_f rfl ?_;refine GE_skip ?_;refine GE_seq ?_;refine GE_slots (L' := [(0, _), (2, _)]) ⟨rfl, rfl, trivial⟩ ?_;refine GE_plain (.st 0 (.st 1 (.st 2 (.st 3 (.st 4 (.st 5 (.st 6 (.ld 7 [] (.st 8 .nil))))))))) rfl ?_;refine GT_st rfl rfl rfl rfl (V_move rfl rfl) ?_;refine GT_st rfl rfl rfl rfl (V_nilCheck rfl rfl) ?_;refine GT_st rfl rfl rfl rfl (V_field rfl rfl fo_177_0) ?_;refine GT_st rfl rfl rfl rfl (V_load rfl rfl ag_170 (CellAt.old (hp.cell rfl) (noM _))) ?_;refine GT_st rfl rfl rfl rfl (V_nilCheck rfl rfl) ?_;refine GT_st rfl rfl rfl rfl (V_field rfl rfl fo_175_0) ?_;refine GT_st rfl rfl rfl rfl (V_loadN (vs := [_, _, _, _, _, _, _, _, _]) rfl rfl ag_173 sz_173 rfl (CellsAt.blkQ hb (fun q => q) rfl)) ?_;refine GT_store (vs := [_, _, _, _, _, _, _, _, _]) (l' := [_, _, _, _, _, _, _, _, _]) rfl rfl rfl rfl rfl rfl rfl sz_173 rfl rfl (Nat.le_of_ble_eq_true rfl) rfl (GR_nil) ?_
  refine GT_st rfl rfl rfl rfl (V_assign rfl rfl) ?_;refine GT_nil ?_;refine GE_ret Tryz.func74 ⟨_, _, ⟨_, rfl, fun w m => run_loadVar_agg (vs := [_, _, _, _, _, _, _, _, _]) ag_173 sz_173 rfl (fun j v hj => CellsAt.item rfl j v hj w m)⟩, rfl, rfl⟩ (fun w hw => ⟨?_, hw.nil⟩)
  rfl
theorem C_Discs {r c : Nat} {A : Option Addr} {b : Nat} {Ig : Items} (hp : BlkAt w p [ptr b 0] 177) (hb : BlkAt w b (wkC s m A l.length c r) 175) (hO : Own 7 47 eDsc l (.slice A l.length c) Ig) (hr : RdL w 7 eDsc A l) (hl : l.length ≤ 100000) :
    Con Tryz.prog 27 [ptr p 0] w (fun y : Option Addr × Nat × Items => Own 7 47 eDsc l (.slice y.1 l.length y.2.1) y.2.2) (fun y => .slice y.1 l.length y.2.1) (fun y => y.2.2) := by
  refine Ret_of (vs := [_]) hm none' Tryz.func27 rfl Tryz.ntmps27 rfl ?_
  dsimp only [slotsOf]
  refine GE_seq ?_;refine GE_plain (.st 0 .nil) rfl ?_;refine GT_st rfl rfl rfl rfl (V_assign rfl rfl) ?_;refine GT_nil ?_;refine GE_seq ?_;refine GE_seq ?_;refine GE_plain (.st 0 (.st 1 (.st 2 (.st 3 (.st 4 (.st 5 (.st 6 (.st 7 (.st 8 .nil))))))))) rfl ?_;refine GT_st rfl rfl rfl rfl (V_move rfl rfl) ?_;refine GT_st rfl rfl rfl rfl (V_eqlNilPtr rfl rfl rfl Tryz.underlying63) ?_;refine GT_st rfl rfl rfl rfl (V_move rfl rfl) ?_;refine GT_st_g rfl rfl rfl rfl rfl rfl rfl (V_move rfl rfl) ?_;refine GT_st_g rfl rfl rfl rfl rfl rfl rfl (V_nilCheck rfl rfl) ?_;refine GT_st_g rfl rfl rfl rfl rfl rfl rfl (V_field rfl rfl fo_177_0) ?_;refine GT_st_g rfl rfl rfl rfl rfl rfl rfl (V_load rfl rfl ag_170 (CellAt.old (hp.cell rfl) (noM _))) ?_;refine GT_st_g rfl rfl rfl rfl rfl rfl rfl (V_eqlNilPtr rfl rfl rfl Tryz.underlying170) ?_;refine GT_st rfl rfl rfl rfl (V_pick_f rfl rfl rfl) ?_;refine GT_nil ?_;refine GE_cond_f rfl ?_;refine GE_skip ?_;refine GE_seq ?_;refine GE_slots (L' := [(0, _)]) ⟨rfl, trivial⟩ ?_;refine GE_plain (.st 0 (.st 1 (.st 2 (.st 3 (.st 4 (.st 5 (.st 6 (.ld 7 [] (.st 8 .nil))))))))) rfl ?_;refine GT_st rfl rfl rfl rfl (V_move rfl rfl) ?_;refine GT_st rfl rfl rfl rfl (V_nilCheck rfl rfl) ?_;refine GT_st rfl rfl rfl rfl (V_field rfl rfl fo_177_0) ?_;refine GT_st rfl rfl rfl rfl (V_load rfl rfl ag_170 (CellAt.old (hp.cell rfl) (noM _))) ?_;refine GT_st rfl rfl rfl rfl (V_nilCheck rfl rfl) ?_;refine GT_st rfl rfl rfl rfl (V_field rfl rfl fo_175_2) ?_;refine GT_st rfl rfl rfl rfl (V_load rfl rfl ag_36 (CellAt.old (hb.cell rfl) (noM _))) ?_;refine GT_call rfl rfl rfl rfl rfl rfl rfl rfl rn_76 (fun w hw => C_CloneD hO (hr.sh hw.nil) hl) (fun _ _ => GR_nil) (fun y hy => ?_)
  refine GT_st rfl rfl rfl rfl (V_assign rfl rfl) ?_;refine GT_nil ?_;refine GE_ret Tryz.func27 rfl (fun w hw => ?_)
  exact ⟨y, hy, rfl, hw.hs (C := cx Tryz.prog hm 0 0 _ none' fun _ _ => True) HS.last⟩
theorem C_Of {r c : Nat} {A : Option Addr} {b : Nat} {Ig : Items} (hp : BlkAt w p [ptr b 0] 177) (hb : BlkAt w b (wkC s m A l.length c r) 175) (hO : Own 7 47 eDsc l (.slice A l.length c) Ig) (hr : RdL w 7 eDsc A l) (hl : l.length ≤ 1000) :
    Con Tryz.prog 28 [ptr p 0, I x] w (fun y : Option Addr × Nat × Nat × Items => y.2.1 = cO x l) (fun y => .slice y.1 y.2.1 y.2.2.1) (fun _ => []) := by
  refine Ret_of (vs := [_, _]) hm none' Tryz.func28 rfl Tryz.ntmps28 rfl ?_
  dsimp only [slotsOf]
  refine GE_seq ?_;refine GE_plain (.st 0 .nil) rfl ?_;refine GT_st rfl rfl rfl rfl (V_assign rfl rfl) ?_;refine GT_nil ?_;refine GE_seq ?_;refine GE_plain (.st 0 .nil) rfl ?_;refine GT_st rfl rfl rfl rfl (V_assign rfl rfl) ?_;refine GT_nil ?_;refine GE_seq ?_;refine GE_seq ?_;refine GE_plain (.st 0 (.ld 1 [] (.st 2 (.st 3 .nil)))) rfl ?_;refine GT_st rfl rfl rfl rfl (V_move rfl rfl) ?_;refine GT_call rfl rfl rfl rfl rfl rfl rfl rfl rn_27 (fun w hw => C_Discs (hp.sh hw) (hb.sh hw) hO (hr.sh hw) (by omega)) (fun _ _ => GR_nil) (fun yd hyd => ?_)
  refine GT_st rfl rfl rfl rfl (V_len rfl Tryz.underlying36 rfl) ?_;refine GT_st rfl rfl rfl rfl (V_move rfl rfl) ?_;refine GT_nil ?_;refine GE_block ?_;refine GE_to (GE_loop (ι := Nat × List Int × (Option Addr × Nat × Items)) (fun z => l.length - z.1) (fun z => [(1, I x), (5, .slice z.2.2.1 z.2.1.length z.2.2.2.1), (9, .slice yd.1 l.length yd.2.1), (10, I l.length), (11, I z.1)]) (fun z => yd.2.2 ++ (z.2.2.2.2 ++ [])) (fun z => z.1 ≤ l.length ∧ z.2.1.length = cO x (l.take z.1) ∧ Own 1 2 eN z.2.1 (.slice z.2.2.1 z.2.1.length z.2.2.2.1) z.2.2.2.2) ?_ (0, [], (none, 0, [])) ?_) ⟨rfl, rfl, rfl, rfl, rfl, trivial⟩ (HS.chunk HS.nil)
  · rintro ⟨k, o, u⟩ ⟨hk, ho, hU⟩ ih; dsimp only at hk ho hU ih ⊢
    refine GE_seq ?_;refine GE_plain (.st 0 .nil) rfl ?_;refine GT_st rfl rfl rfl rfl (V_lss rfl rfl rfl) ?_;refine GT_nil ?_;refine GE_seq ?_;refine GE_cond rfl (fun q1 => ?_) (fun q1 => ?_)
    · have hkl : k < l.length := (by omega); have htk : l.take (k + 1) = l.take k ++ [l.getD k default] := (by rw [List.take_succ_eq_append_getElem hkl]; simp [List.getD, hkl]); have hole : o.length ≤ k := (by rw [ho]; have := cO_le x (l.take k); rw [List.length_take] at this; omega)
      refine GE_skip ?_;refine GE_seq ?_;refine GE_block ?_;refine GE_seq ?_;refine GE_plain (.st 0 (.st 1 (.ld 2 [] (.ld 3 [] .nil)))) rfl ?_;refine GT_st rfl rfl rfl rfl (V_index rfl rfl rfl Tryz.underlying36 sz_47 (k := k) rfl hkl (hyd.isSome hkl)) ?_;refine GT_st rfl rfl rfl rfl (V_loadN (vs := [_, _, _, _, _, _, _]) rfl rfl ag_47 sz_47 rfl (CellsAt.ownE hyd eDsc_len hkl rfl)) ?_;refine GT_alloc rfl rfl rfl rfl rfl zc_47 (fun _ => GR_nil) (fun b7 => ?_)
      refine GT_store (vs := [_, _, _, _, _, _, _]) (l' := [_, _, _, _, _, _, _]) rfl rfl rfl rfl rfl rfl rfl sz_47 rfl rfl (Nat.le_of_ble_eq_true rfl) rfl (GR_nil) ?_;refine GT_nil ?_;refine GE_seq ?_;refine GE_plain (.st 0 (.st 1 (.st 2 (.st 3 (.st 4 (.st 5 (.st 6 (.st 7 (.st 8 (.st 9 .nil)))))))))) rfl ?_;refine GT_st rfl rfl rfl rfl (V_field rfl rfl fo_47_1) ?_;refine GT_st rfl rfl rfl rfl (V_load rfl rfl ag_2 (CellAt.item rfl)) ?_;refine GT_st rfl rfl rfl rfl (V_move rfl rfl) ?_;refine GT_st rfl rfl rfl rfl (V_eql rfl rfl rfl) ?_;refine GT_st rfl rfl rfl rfl (V_move rfl rfl) ?_;refine GT_split (d := 19) rfl (fun q2 => ?_) (fun q2 => ?_)
      · refine GT_skip rfl rfl rfl rfl rfl (by decide) rfl rfl ?_;refine GT_skip rfl rfl rfl rfl rfl (by decide) rfl rfl ?_;refine GT_skip rfl rfl rfl rfl rfl (by decide) rfl rfl ?_;refine GT_skip rfl rfl rfl rfl rfl (by decide) rfl rfl ?_;refine GT_st rfl rfl rfl rfl (V_pick_t rfl rfl rfl) ?_;refine GT_nil ?_;refine GE_cond_t rfl ?_;refine GE_slots (L' := [(1, _), (5, _), (7, _), (9, _), (10, _), (11, _), (20, _), (21, _), (22, _), (23, _)]) ⟨rfl, rfl, rfl, rfl, rfl, rfl, rfl, rfl, rfl, rfl, trivial⟩ ?_;refine GE_plain (.st 0 (.st 1 (.st 2 (.ld 3 [] (.ld 4 [] (.ld 5 [] .nil)))))) rfl ?_;refine GT_st rfl rfl rfl rfl (V_move rfl rfl) ?_;refine GT_st rfl rfl rfl rfl (V_field rfl rfl fo_47_0) ?_;refine GT_st rfl rfl rfl rfl (V_load rfl rfl ag_2 (CellAt.item rfl)) ?_;refine GT_buildSlice (z := [_]) rfl rfl rfl rfl rfl Tryz.underlying43 zc_2 sz_2 (by decide) rfl rfl (fun _ => GR_nil) (fun b28 => ?_)
        refine GT_append (enc := eN) (l := o) (m := [(l.getD k default).ser]) rfl rfl rfl rfl rfl rfl rfl hU (fun w m => RdL.own' m eN_len) Tryz.underlying43 zc_2 sz_2 ⟨rfl, by decide⟩ by_2 ⟨by simp only [List.length_singleton]; omega, by simp only [List.length_singleton]; omega⟩ eN_len eN_one (fun _ _ _ _ => GR_nil) (fun A3 c3 I3 hO3 => ?_)
        refine GT_ldv rfl rfl rfl rfl rfl (V_assign rfl rfl) (GR_nil) ?_;refine GT_nil ?_;refine GE_inBlock ?_;refine GE_slots (L' := [(1, _), (5, _), (9, _), (10, _), (11, _), (20, _), (21, _), (22, _), (23, _)]) ⟨rfl, rfl, rfl, rfl, rfl, rfl, rfl, rfl, rfl, trivial⟩ ?_;refine GE_plain (.st 0 (.ld 1 [] .nil)) rfl ?_;refine GT_st rfl rfl rfl rfl (V_add rfl rfl rfl (wrap_i64 (by omega))) ?_;refine GT_ldv rfl rfl rfl rfl rfl (V_move rfl rfl) (GR_nil) ?_;refine GT_nil ?_
        first
          | exact GE_to (ih (k + 1, o ++ [(l.getD k default).ser], (A3, c3, I3)) ⟨by dsimp only; omega, by dsimp only; rw [List.length_append, List.length_singleton, htk, cO_snoc, if_pos (by first | exact .inl q2 | exact .inr q3 | exact .inl q3), ho], hO3⟩ (by dsimp only; omega)) ⟨rfl, rfl, rfl, rfl, rfl, trivial⟩ (HS.chunk (HS.chunk HS.nil))
          | exact GE_to (ih (k + 1, o, u) ⟨by dsimp only; omega, by dsimp only; rw [htk, cO_snoc, if_neg (by rintro (e | e); exact q2 e; exact q3 e), ho]; rfl, hU⟩ (by dsimp only; omega)) ⟨rfl, rfl, rfl, rfl, rfl, trivial⟩ (HS.chunk (HS.chunk HS.nil))
      · refine GT_st_g rfl rfl rfl rfl rfl rfl rfl (V_field rfl rfl fo_47_2) ?_;refine GT_st_g rfl rfl rfl rfl rfl rfl rfl (V_load rfl rfl ag_2 (CellAt.item rfl)) ?_;refine GT_st_g rfl rfl rfl rfl rfl rfl rfl (V_move rfl rfl) ?_;refine GT_st_g rfl rfl rfl rfl rfl rfl rfl (V_eql rfl rfl rfl) ?_;refine GT_st rfl rfl rfl rfl (V_pick_f rfl rfl rfl) ?_;refine GT_nil ?_;refine GE_cond rfl (fun q3 => ?_) (fun q3 => ?_)
        · refine GE_slots (L' := [(1, _), (5, _), (7, _), (9, _), (10, _), (11, _), (20, _), (21, _), (22, _), (23, _)]) ⟨rfl, rfl, rfl, rfl, rfl, rfl, rfl, rfl, rfl, rfl, trivial⟩ ?_;refine GE_plain (.st 0 (.st 1 (.st 2 (.ld 3 [] (.ld 4 [] (.ld 5 [] .nil)))))) rfl ?_;refine GT_st rfl rfl rfl rfl (V_move rfl rfl) ?_;refine GT_st rfl rfl rfl rfl (V_field rfl rfl fo_47_0) ?_;refine GT_st rfl rfl rfl rfl (V_load rfl rfl ag_2 (CellAt.item rfl)) ?_;refine GT_buildSlice (z := [_]) rfl rfl rfl rfl rfl Tryz.underlying43 zc_2 sz_2 (by decide) rfl rfl (fun _ => GR_nil) (fun b28 => ?_)
          refine GT_append (enc := eN) (l := o) (m := [(l.getD k default).ser]) rfl rfl rfl rfl rfl rfl rfl hU (fun w m => RdL.own' m eN_len) Tryz.underlying43 zc_2 sz_2 ⟨rfl, by decide⟩ by_2 ⟨by simp only [List.length_singleton]; omega, by simp only [List.length_singleton]; omega⟩ eN_len eN_one (fun _ _ _ _ => GR_nil) (fun A3 c3 I3 hO3 => ?_)
          refine GT_ldv rfl rfl rfl rfl rfl (V_assign rfl rfl) (GR_nil) ?_;refine GT_nil ?_;refine GE_inBlock ?_;refine GE_slots (L' := [(1, _), (5, _), (9, _), (10, _), (11, _), (20, _), (21, _), (22, _), (23, _)]) ⟨rfl, rfl, rfl, rfl, rfl, rfl, rfl, rfl, rfl, trivial⟩ ?_;refine GE_plain (.st 0 (.ld 1 [] .nil)) rfl ?_;refine GT_st rfl rfl rfl rfl (V_add rfl rfl rfl (wrap_i64 (by omega))) ?_;refine GT_ldv rfl rfl rfl rfl rfl (V_move rfl rfl) (GR_nil) ?_;refine GT_nil ?_
          first
            | exact GE_to (ih (k + 1, o ++ [(l.getD k default).ser], (A3, c3, I3)) ⟨by dsimp only; omega, by dsimp only; rw [List.length_append, List.length_singleton, htk, cO_snoc, if_pos (by first | exact .inl q2 | exact .inr q3 | exact .inl q3), ho], hO3⟩ (by dsimp only; omega)) ⟨rfl, rfl, rfl, rfl, rfl, trivial⟩ (HS.chunk (HS.chunk HS.nil))
            | exact GE_to (ih (k + 1, o, u) ⟨by dsimp only; omega, by dsimp only; rw [htk, cO_snoc, if_neg (by rintro (e | e); exact q2 e; exact q3 e), ho]; rfl, hU⟩ (by dsimp only; omega)) ⟨rfl, rfl, rfl, rfl, rfl, trivial⟩ (HS.chunk (HS.chunk HS.nil))
        · refine GE_skip ?_;refine GE_inBlock ?_;refine GE_slots (L' := [(1, _), (5, _), (9, _), (10, _), (11, _), (20, _), (21, _), (22, _), (23, _)]) ⟨rfl, rfl, rfl, rfl, rfl, rfl, rfl, rfl, rfl, trivial⟩ ?_;refine GE_plain (.st 0 (.ld 1 [] .nil)) rfl ?_;refine GT_st rfl rfl rfl rfl (V_add rfl rfl rfl (wrap_i64 (by omega))) ?_;refine GT_ldv rfl rfl rfl rfl rfl (V_move rfl rfl) (GR_nil) ?_;refine GT_nil ?_
          first
            | exact GE_to (ih (k + 1, o ++ [(l.getD k default).ser], (A3, c3, I3)) ⟨by dsimp only; omega, by dsimp only; rw [List.length_append, List.length_singleton, htk, cO_snoc, if_pos (by first | exact .inl q2 | exact .inr q3 | exact .inl q3), ho], hO3⟩ (by dsimp only; omega)) ⟨rfl, rfl, rfl, rfl, rfl, trivial⟩ (HS.chunk (HS.chunk HS.nil))
            | exact GE_to (ih (k + 1, o, u) ⟨by dsimp only; omega, by dsimp only; rw [htk, cO_snoc, if_neg (by rintro (e | e); exact q2 e; exact q3 e), ho]; rfl, hU⟩ (by dsimp only; omega)) ⟨rfl, rfl, rfl, rfl, rfl, trivial⟩ (HS.chunk (HS.chunk HS.nil))
    · obtain rfl : k = l.length := (by omega); rw [List.take_length] at ho
      refine GE_exit rfl ?_;refine GE_seq ?_;refine GE_slots (L' := [(5, _)]) ⟨rfl, trivial⟩ ?_;refine GE_plain (.st 0 (.st 1 .nil)) rfl ?_;refine GT_st rfl rfl rfl rfl (V_move rfl rfl) ?_;refine GT_st rfl rfl rfl rfl (V_assign rfl rfl) ?_;refine GT_nil ?_;refine GE_ret Tryz.func28 rfl (fun w hw => ?_)
      exact ⟨(u.1, o.length, u.2.1, []), ho, rfl, hw.nil⟩
  · exact ⟨Nat.zero_le _, rfl, Own.nil⟩
end
end Go.Proofs.YtpbflnfcgcldkaaGreatDoor.Prs
/- A list of numbers turned round, plain and walked. -/
namespace Go.Proofs.YtpbflnfcgcldkaaGreatDoor.Prs
open Go.Sx Go.Proofs Go.RowKit
open Side (eN eN_len eN_one getD_memT sh_trans)
def revTo {α : Type} [Inhabited α] (l : List α) (k : Nat) : List α := (List.range l.length).map fun q => if q < k ∨ l.length - k ≤ q then l.getD (l.length - 1 - q) default else l.getD q default
theorem revTo_length {α : Type} [Inhabited α] (l : List α) (k : Nat) : (revTo l k).length = l.length := by simp [revTo]
theorem revTo_getD {α : Type} [Inhabited α] (l : List α) (k q : Nat) (hq : q < l.length) : (revTo l k).getD q default = if q < k ∨ l.length - k ≤ q then l.getD (l.length - 1 - q) default else l.getD q default := by
  simp [revTo, List.getD, hq]
theorem list_ext_getD {α : Type} [Inhabited α] {a b : List α} (hl : a.length = b.length) (h : ∀ q, q < a.length → a.getD q default = b.getD q default) : a = b := by
  apply List.ext_getElem hl
  intro i h1 h2
  have := h i h1
  simpa [List.getD, h1, h2] using this
theorem revTo_zero {α : Type} [Inhabited α] (l : List α) : revTo l 0 = l := by
  apply list_ext_getD (revTo_length l 0)
  intro q hq
  rw [revTo_length] at hq
  rw [revTo_getD _ _ _ hq, if_neg (by omega)]
theorem getD_set {α : Type} [Inhabited α] {l : List α} {i q : Nat} {x : α} (hi : i < l.length) : (l.set i x).getD q default = if i = q then x else l.getD q default := by
  simp only [List.getD, List.getElem?_set]
  split
  · rename_i h; subst h; simp [hi]
  · rfl
theorem revTo_succ {α : Type} [Inhabited α] (l : List α) (k j : Nat) (hj : j + k + 1 = l.length) (hk : k < j) : ((revTo l k).set k ((revTo l k).getD j default)).set j ((revTo l k).getD k default) = revTo l (k + 1) := by
  apply list_ext_getD (by simp [revTo_length])
  intro q hq
  simp only [List.length_set, revTo_length] at hq
  rw [getD_set (by simp [revTo_length]; omega), getD_set (by simp [revTo_length]; omega), revTo_getD _ _ _ hq, revTo_getD _ _ _ hq, revTo_getD l k j (by omega), revTo_getD l k k (by omega)]
  by_cases h1 : j = q
  · subst h1
    rw [if_pos rfl, if_neg (by omega), if_pos (by omega)]
    congr 1; omega
  · rw [if_neg h1]
    by_cases h2 : k = q
    · subst h2
      rw [if_pos rfl, if_neg (by omega), if_pos (by omega)]
      congr 1; omega
    · rw [if_neg h2]
      by_cases h3 : q < k ∨ l.length - k ≤ q
      · rw [if_pos h3, if_pos (by omega)]
      · rw [if_neg h3, if_neg (by omega)]
theorem revTo_end {α : Type} [Inhabited α] (l : List α) (k : Nat) (hk : l.length ≤ 2 * k + 1) : revTo l k = l.reverse := by
  apply list_ext_getD (by simp [revTo_length])
  intro q hq
  rw [revTo_length] at hq
  rw [revTo_getD _ _ _ hq]
  have : l.reverse.getD q default = l.getD (l.length - 1 - q) default := by simp [List.getD, List.getElem?_reverse hq]
  rw [this]
  split
  · rfl
  · congr 1; omega
theorem C_ReverseI {l : List Int} {A : Option Addr} {c : Nat} {I0 : Items} {w : World} {w0 : World} {H H1 : Items} [hch : HChunk I0 H H1] (m : SH w0 none' H w) (hO : Own 1 3 eN l (.slice A l.length c) I0) (hl : l.length ≤ 1099511627776) :
    Ret Tryz.prog 129 [.slice A l.length c].toArray w fun v w' => ∃ I', Own 1 3 eN l.reverse (.slice A l.length c) I' ∧ v = .tuple #[] ∧ SH w0 none' (I' ++ H1) w' := by
  have m' := m.perm hch.perm
  refine Ret_ofH (vs := [_]) hm none' Tryz.func129 rfl Tryz.ntmps129 rfl m' ?_
  dsimp only [slotsOf]
  refine GE_seq ?_;refine GE_plain (.st 0 (.st 1 (.st 2 (.st 3 (.st 4 .nil))))) rfl ?_;refine GT_st rfl rfl rfl rfl (V_move rfl rfl) ?_;refine GT_st rfl rfl rfl rfl (V_len rfl Tryz.underlying38 rfl) ?_;refine GT_st rfl rfl rfl rfl (V_sub rfl rfl rfl (wrap_i64 (by omega))) ?_;refine GT_st rfl rfl rfl rfl (V_assign rfl rfl) ?_;refine GT_st rfl rfl rfl rfl (V_assign rfl rfl) ?_;refine GT_nil ?_;refine GE_block ?_;refine GE_to (GE_loop (ι := Nat × Int × Items) (fun x => l.length - x.1) (fun x => [(0, .slice A l.length c), (2, I x.1), (3, I x.2.1)]) (fun x => x.2.2 ++ H1) (fun x => x.1 ≤ l.length ∧ x.2.1 = (l.length : Int) - 1 - x.1 ∧ Own 1 3 eN (revTo l x.1) (.slice A l.length c) x.2.2) ?_ (0, _, I0) ?_) ⟨rfl, rfl, rfl, trivial⟩ (HS.chunk HS.all)
  · rintro ⟨k, j, I1⟩ ⟨hk, hj, hO1⟩ ih; dsimp only at hk hj hO1 ih ⊢
    refine GE_seq ?_;refine GE_seq ?_;refine GE_plain (.st 0 (.st 1 (.st 2 .nil))) rfl ?_;refine GT_st rfl rfl rfl rfl (V_move rfl rfl) ?_;refine GT_st rfl rfl rfl rfl (V_move rfl rfl) ?_;refine GT_st rfl rfl rfl rfl (V_lss rfl rfl rfl) ?_;refine GT_nil ?_;refine GE_cond rfl (fun h1 => ?_) (fun h1 => ?_)
    · have hlen := revTo_length l k
      refine GE_skip ?_;refine GE_seq ?_;refine GE_block ?_;refine GE_drawn (.st 0 (.st 1 (.st 2 (.st 3 (.st 4 (.st 5 (.st 6 (.st 7 (.st 8 (.st 9 (.st 10 (.st 11 (.st 12 (.ld 13 [2, 3] (.st 14 (.ld 15 [] .nil)))))))))))))))) [13, 15] (by decide +kernel) ?_;refine GT_st rfl rfl rfl rfl (V_move rfl rfl) ?_;refine GT_st rfl rfl rfl rfl (V_move rfl rfl) ?_;refine GT_st rfl rfl rfl rfl (V_move rfl rfl) ?_;refine GT_st rfl rfl rfl rfl (V_move rfl rfl) ?_;refine GT_st rfl rfl rfl rfl (V_move rfl rfl) ?_;refine GT_st rfl rfl rfl rfl (V_move rfl rfl) ?_;refine GT_st rfl rfl rfl rfl (V_index rfl rfl rfl Tryz.underlying38 sz_3 (k := j.toNat) (by omega) (by omega) (hO1.isSome (k := k) (by omega))) ?_;refine GT_st rfl rfl rfl rfl (V_load rfl rfl ag_3 (CellAt.own0 (k := j.toNat) hO1 eN_len (by omega) rfl)) ?_;refine GT_st rfl rfl rfl rfl (V_move rfl rfl) ?_;refine GT_st rfl rfl rfl rfl (V_move rfl rfl) ?_;refine GT_st rfl rfl rfl rfl (V_index rfl rfl rfl Tryz.underlying38 sz_3 rfl (by omega) (hO1.isSome (k := k) (by omega))) ?_;refine GT_st rfl rfl rfl rfl (V_load rfl rfl ag_3 (CellAt.own0 (k := k) hO1 eN_len (by omega) rfl)) ?_;refine GT_st rfl rfl rfl rfl (V_index rfl rfl rfl Tryz.underlying38 sz_3 rfl (by omega) (hO1.isSome (k := k) (by omega))) ?_;refine GT_storeOwn (enc := eN) (q := k) (xx := (revTo l k).getD j.toNat default) rfl rfl rfl rfl rfl rfl rfl sz_3 hO1 eN_len eN_one (by omega) (by decide) (fun _ _ => GR_cons rfl rfl rfl rfl (V_move rfl rfl) (GR_cons rfl rfl rfl rfl (V_move rfl rfl) (GR_nil))) (fun I2 hO2 => ?_)
      refine GT_st rfl rfl rfl rfl (V_index rfl rfl rfl Tryz.underlying38 sz_3 (k := j.toNat) (by omega) (by omega) (hO1.isSome (k := k) (by omega))) ?_;refine GT_storeOwn (enc := eN) (q := j.toNat) (xx := (revTo l k).getD k default) rfl rfl rfl rfl rfl rfl rfl sz_3 hO2 eN_len eN_one (by simp; omega) (by decide) (fun _ _ => GR_nil) (fun I3 hO3 => ?_)
      refine GT_nil ?_;refine GE_inBlock ?_;refine GE_slots (L' := [(0, _), (2, _), (3, _)]) ⟨rfl, rfl, rfl, trivial⟩ ?_
      rw [revTo_succ l k j.toNat (by omega) (by omega)] at hO3
      refine GE_plain (.st 0 (.st 1 (.st 2 (.st 3 (.ld 4 [] (.ld 5 [] .nil)))))) rfl ?_;refine GT_st rfl rfl rfl rfl (V_move rfl rfl) ?_;refine GT_st rfl rfl rfl rfl (V_add rfl rfl rfl (wrap_i64 (by omega))) ?_;refine GT_st rfl rfl rfl rfl (V_move rfl rfl) ?_;refine GT_st rfl rfl rfl rfl (V_sub rfl rfl rfl (wrap_i64 (by omega))) ?_;refine GT_ldv rfl rfl rfl rfl rfl (V_assign rfl rfl) (GR_nil) ?_;refine GT_ldv rfl rfl rfl rfl rfl (V_assign rfl rfl) (GR_nil) ?_;refine GT_nil ?_
      exact GE_to (ih (k + 1, _, I3) ⟨by dsimp only; omega, by dsimp only; omega, hO3⟩ (by dsimp only; omega)) ⟨rfl, rfl, rfl, trivial⟩ (HS.chunk HS.all)
    · have he := revTo_end l k (by omega)
      refine GE_exit rfl ?_;refine GE_end Tryz.func129 rfl (fun w hw => ?_)
      exact ⟨I1, by rw [← he]; exact hO1, rfl, hw⟩
  · exact ⟨Nat.zero_le _, by simp, by rw [revTo_zero]; exact hO⟩
end Go.Proofs.YtpbflnfcgcldkaaGreatDoor.Prs
/- The fastest way to a good disc, plain: a search in breadth. -/
namespace Go.Proofs.YtpbflnfcgcldkaaGreatDoor.Prs
open Go.Sx Go.Proofs Go.RowKit
abbrev Sta := Int × Int
def nx (m : Mch) (s : Sta) (v : Int) : Sta := (tickM m s.1 v, if m.melt ≤ tickM m s.1 v then min m.hold (s.2 + 1) else s.2)
def rn (m : Mch) (s : Sta) (l : List Int) : Sta := l.foldl (nx m) s
def StaOk (m : Mch) (s : Sta) : Prop := (m.room ≤ s.1 ∧ s.1 ≤ m.top) ∧ 0 ≤ s.2 ∧ s.2 ≤ m.hold
def Goal (m : Mch) (s : Sta) : Prop := s.2 = m.hold ∧ s.1 ≤ m.cool
def VOk (v : Int) : Prop := 0 ≤ v ∧ v ≤ 2
theorem nx_ok {m : Mch} (h : m.Ok) {s : Sta} (hs : StaOk m s) (v : Int) : StaOk m (nx m s v) := by
  have := tickM_bd (v := v) h hs.1
  have h2 := hs.2
  have h3 := h.hold
  unfold nx StaOk
  refine ⟨this, ?_⟩
  dsimp only
  split <;> omega
theorem rn_ok {m : Mch} (h : m.Ok) : ∀ (l : List Int) {s : Sta}, StaOk m s → StaOk m (rn m s l)
  | [], _, hs => hs
  | v :: l, _, hs => rn_ok h l (nx_ok h hs v)
theorem rn_app (m : Mch) (s : Sta) (l l' : List Int) : rn m s (l ++ l') = rn m (rn m s l) l' := List.foldl_append ..
theorem steamT {m : Mch} (h : m.Ok) : ∀ (n : Nat) {s : Sta}, StaOk m s → m.top ≤ s.1 + n → (rn m s (List.replicate n 1)).1 = m.top
  | 0, s, hs, q => by have := hs.1; simp [rn]; omega
  | n + 1, s, hs, q => by
    have h1 := h.heat
    have e : (nx m s 1).1 = min m.top (s.1 + m.heat) := by simp [nx, tickM]
    rw [List.replicate_succ]
    show (rn m (nx m s 1) (List.replicate n 1)).1 = m.top
    exact steamT h n (nx_ok h hs 1) (by have := hs.1; omega)
theorem steamH {m : Mch} (h : m.Ok) : ∀ (n : Nat) {s : Sta}, StaOk m s → s.1 = m.top → (rn m s (List.replicate n 1)) = (m.top, min m.hold (s.2 + n))
  | 0, s, hs, q => by have := hs.2; simp [rn]; exact Prod.ext q (by dsimp only; omega)
  | n + 1, s, hs, q => by
    have h1 := h.heat
    have h2 := h.melt
    have e : tickM m s.1 1 = m.top := by simp [tickM]; omega
    have e2 : nx m s 1 = (m.top, min m.hold (s.2 + 1)) := by unfold nx; rw [e, if_pos h2]
    rw [List.replicate_succ]
    show rn m (nx m s 1) (List.replicate n 1) = _
    rw [steamH h n (nx_ok h hs 1) (by rw [e2]), e2]
    refine Prod.ext rfl ?_
    dsimp only; omega
theorem waterT {m : Mch} (h : m.Ok) : ∀ (n : Nat) {s : Sta}, StaOk m s → s.1 ≤ m.room + n → s.2 = m.hold → rn m s (List.replicate n 2) = (m.room, m.hold)
  | 0, s, hs, q, q2 => by have := hs.1; simp [rn]; exact Prod.ext (by dsimp only; omega) q2
  | n + 1, s, hs, q, q2 => by
    have h1 := h.chill
    have e : tickM m s.1 2 = max m.room (s.1 - m.chill) := by simp [tickM]
    have e2 : nx m s 2 = (max m.room (s.1 - m.chill), m.hold) := by unfold nx; rw [e, q2]; refine Prod.ext rfl ?_; dsimp only; split <;> omega
    rw [List.replicate_succ]
    show rn m (nx m s 2) (List.replicate n 2) = _
    exact waterT h n (nx_ok h hs 2) (by rw [e2]; have := hs.1; dsimp only; omega) (by rw [e2])
def pth (m : Mch) : List Int := List.replicate ((m.top - m.room).toNat + m.hold.toNat) 1 ++ List.replicate (m.top - m.room).toNat 2
theorem pth_len {m : Mch} (h : m.Ok) (h1 : m.top ≤ 150) (h2 : m.hold ≤ 6) : (pth m).length ≤ 306 := by
  have := h.room.1; have := h.hold
  simp only [pth, List.length_append, List.length_replicate]; omega
theorem pth_big {m : Mch} (h : m.Ok) : (pth m).length ≤ 2000 := by
  have := h.room.1; have := h.hold; have := h.top
  simp only [pth, List.length_append, List.length_replicate]; omega
theorem pth_v {m : Mch} : ∀ v ∈ pth m, VOk v := fun v hv => by
  unfold pth at hv
  rcases List.mem_append.1 hv with q | q <;> (rw [(List.mem_replicate.1 q).2]; unfold VOk; omega)
theorem pth_goal {m : Mch} (h : m.Ok) {s : Sta} (hs : StaOk m s) : Goal m (rn m s (pth m)) := by
  have h0 := h.hold; have h3 := h.room.2; have hs1 := hs.1
  have e : rn m s (List.replicate ((m.top - m.room).toNat + m.hold.toNat) 1) = (m.top, m.hold) := by
    rw [← List.replicate_append_replicate, rn_app]
    have h1 := rn_ok h (List.replicate (m.top - m.room).toNat 1) hs
    have h2 := steamT h (m.top - m.room).toNat hs (by omega)
    rw [steamH h _ h1 h2]
    have := h1.2
    refine Prod.ext rfl ?_
    dsimp only; omega
  unfold pth
  rw [rn_app, e, waterT h _ ⟨⟨by dsimp only; omega, Int.le_refl _⟩, by dsimp only; omega, Int.le_refl _⟩ (by dsimp only; omega) rfl]
  exact ⟨rfl, h3⟩
structure Bfs (m : Mch) (b : Sta) (Q : List Sta) (f : Sta → Option (Sta × Int)) (d : Sta → Nat) : Prop where
  ok : ∀ s ∈ Q, StaOk m s
  nd : Q.Nodup
  head : Q[0]? = some b
  d0 : d b = 0
  dom : ∀ s, (f s).isSome = true ↔ s ∈ Q
  from_ : ∀ s ∈ Q, s ≠ b → ∃ r v, f s = some (r, v) ∧ r ∈ Q ∧ d s = d r + 1 ∧ nx m r v = s ∧ VOk v
  mono : ∀ (i j : Nat) (s t : Sta), i ≤ j → Q[i]? = some s → Q[j]? = some t → d s ≤ d t
structure Seen (m : Mch) (Q : List Sta) (d : Sta → Nat) (i : Nat) : Prop where
  le : i ≤ Q.length
  none : ∀ (j : Nat) (s : Sta), j < i → Q[j]? = some s → ¬ Goal m s
  all : ∀ (j : Nat) (s : Sta), j < i → Q[j]? = some s → ∀ v, VOk v → nx m s v ∈ Q ∧ d (nx m s v) ≤ d s + 1
  far : ∀ (s t : Sta), Q[i - 1]? = some s → t ∈ Q → d t ≤ d s + 1
theorem mem_ix {α : Type} {l : List α} {x : α} (h : x ∈ l) : ∃ j : Nat, l[j]? = some x := by
  obtain ⟨j, hj, rfl⟩ := List.mem_iff_getElem.1 h
  exact ⟨j, List.getElem?_eq_getElem hj⟩
theorem Bfs.walk {m : Mch} (hm : m.Ok) {b : Sta} (hb : StaOk m b) {Q : List Sta} {f : Sta → Option (Sta × Int)} {d : Sta → Nat} {i : Nat} (h : Bfs m b Q f d) (hs : Seen m Q d i)
    (hfar : ∀ s ∈ Q, d s ≤ (pth m).length → ∃ j, j < i ∧ Q[j]? = some s) : False := by
  have key : ∀ k, k ≤ (pth m).length → rn m b ((pth m).take k) ∈ Q ∧ d (rn m b ((pth m).take k)) ≤ k := by
    intro k
    induction k with
    | zero => intro _; exact ⟨by rw [List.take_zero]; exact List.mem_of_getElem? h.head, by rw [List.take_zero]; exact Nat.le_of_eq h.d0⟩
    | succ k ih =>
      intro hk
      obtain ⟨h1, h2⟩ := ih (by omega)
      obtain ⟨j, hj, hq⟩ := hfar _ h1 (by omega)
      have hv : VOk (pth m)[k] := pth_v _ (List.getElem_mem _)
      obtain ⟨h3, h4⟩ := hs.all j _ hj hq _ hv
      have e : rn m b ((pth m).take (k + 1)) = nx m (rn m b ((pth m).take k)) (pth m)[k] := by
        rw [List.take_succ_eq_append_getElem (by omega), rn_app]; rfl
      rw [e]
      exact ⟨h3, by omega⟩
  obtain ⟨h1, h2⟩ := key _ (Nat.le_refl _)
  obtain ⟨j, hj, hq⟩ := hfar _ h1 h2
  rw [List.take_length] at hq
  exact hs.none j _ hj hq (pth_goal hm hb)
theorem Bfs.more {m : Mch} (hm : m.Ok) {b : Sta} (hb : StaOk m b) {Q : List Sta} {f : Sta → Option (Sta × Int)} {d : Sta → Nat} {i : Nat} (h : Bfs m b Q f d) (hs : Seen m Q d i) : i < Q.length := by
  rcases Nat.lt_or_ge i Q.length with q | q
  · exact q
  · exact (h.walk hm hb hs fun s hs' _ => by
      obtain ⟨j, hj⟩ := mem_ix hs'
      have := (List.getElem?_eq_some_iff.1 hj).1
      exact ⟨j, by omega, hj⟩).elim
theorem Bfs.near {m : Mch} (hm : m.Ok) {b : Sta} (hb : StaOk m b) {Q : List Sta} {f : Sta → Option (Sta × Int)} {d : Sta → Nat} {i : Nat} (h : Bfs m b Q f d) (hs : Seen m Q d i) {s : Sta} (hq : Q[i]? = some s) : d s ≤ (pth m).length := by
  rcases Nat.lt_or_ge (pth m).length (d s) with q | q
  · exact (h.walk hm hb hs fun t ht hd => by
      obtain ⟨j, hj⟩ := mem_ix ht
      refine ⟨j, ?_, hj⟩
      rcases Nat.lt_or_ge j i with q' | q'
      · exact q'
      · have := h.mono i j s t q' hq hj; omega).elim
  · exact q
theorem nodup_le {α : Type} [DecidableEq α] : ∀ (l u : List α), l.Nodup → (∀ x ∈ l, x ∈ u) → l.length ≤ u.length
  | [], _, _, _ => Nat.zero_le _
  | x :: l, u, hn, h => by
    rw [List.nodup_cons] at hn
    have hx := h x (List.mem_cons_self ..)
    have := nodup_le l (u.erase x) hn.2 fun y hy => (List.mem_erase_of_ne (by rintro rfl; exact hn.1 hy)).2 (h y (List.mem_cons_of_mem _ hy))
    rw [List.length_erase_of_mem hx] at this
    have : 0 < u.length := List.length_pos_of_mem hx
    rw [List.length_cons]; omega
def allS : List Sta := (List.range 401).flatMap fun (t : Nat) => (List.range 65).map fun (h : Nat) => (((t : Nat) : Int), ((h : Nat) : Int))
theorem allS_len : allS.length = 26065 := by
  unfold allS
  rw [List.length_flatMap]
  simp only [List.length_map, List.length_range, List.map_const', List.sum_replicate_nat]
theorem Bfs.few {m : Mch} (hm : m.Ok) {b : Sta} {Q : List Sta} {f : Sta → Option (Sta × Int)} {d : Sta → Nat} (h : Bfs m b Q f d) : Q.length ≤ 26065 := by
  rw [← allS_len]
  refine nodup_le Q allS h.nd fun s hs => ?_
  obtain ⟨h1, h2⟩ := h.ok s hs
  have := hm.room.1; have := hm.top; have := hm.hold
  unfold allS
  rw [List.mem_flatMap]
  refine ⟨s.1.toNat, by rw [List.mem_range]; omega, ?_⟩
  rw [List.mem_map]
  exact ⟨s.2.toNat, by rw [List.mem_range]; omega, Prod.ext (by dsimp only; omega) (by dsimp only; omega)⟩
theorem Bfs.init {m : Mch} {b : Sta} (hb : StaOk m b) : Bfs m b [b] (upd (fun _ => none) b (some (((0, 0) : Sta), (-1 : Int)))) (fun _ => 0) := by
  refine ⟨fun s hs => by rw [List.mem_singleton] at hs; subst hs; exact hb, by simp, rfl, rfl, fun s => ?_, fun s hs hne => absurd (List.mem_singleton.1 hs) hne, fun i j s t _ _ _ => Nat.le_refl _⟩
  rw [List.mem_singleton, upd]
  split <;> simp_all
theorem Bfs.push {m : Mch} (hm : m.Ok) {b : Sta} {Q : List Sta} {f : Sta → Option (Sta × Int)} {d : Sta → Nat} (h : Bfs m b Q f d) {s : Sta} (hs : s ∈ Q) {v : Int} (hv : VOk v) (hn : f (nx m s v) = none) (hfar : ∀ t ∈ Q, d t ≤ d s + 1) :
    Bfs m b (Q ++ [nx m s v]) (upd f (nx m s v) (some (s, v))) (fun x => if x = nx m s v then d s + 1 else d x) ∧ ∀ t ∈ Q, (if t = nx m s v then d s + 1 else d t) = d t := by
  have hno : nx m s v ∉ Q := by rw [← h.dom, hn]; decide
  have hd : ∀ t ∈ Q, (if t = nx m s v then d s + 1 else d t) = d t := fun t ht => if_neg (by rintro rfl; exact hno ht)
  have hbQ : b ∈ Q := List.mem_of_getElem? h.head
  refine ⟨⟨fun t ht => ?_, ?_, ?_, ?_, fun t => ?_, fun t ht hne => ?_, fun i j t u hij ht hu => ?_⟩, hd⟩
  · rcases List.mem_append.1 ht with q | q
    · exact h.ok t q
    · rw [List.mem_singleton] at q; subst q; exact nx_ok hm (h.ok s hs) v
  · rw [List.nodup_append]
    exact ⟨h.nd, by simp, fun a ha b hb => by rw [List.mem_singleton] at hb; subst hb; rintro rfl; exact hno ha⟩
  · rw [List.getElem?_append_left (List.length_pos_of_mem hbQ)]; exact h.head
  · rw [hd b hbQ]; exact h.d0
  · rw [List.mem_append, List.mem_singleton, upd]
    split
    · simp_all
    · rename_i q; rw [h.dom]; simp [q]
  · rcases List.mem_append.1 ht with q | q
    · obtain ⟨r, u, h1, h2, h3, h4⟩ := h.from_ t q hne
      refine ⟨r, u, ?_, List.mem_append_left _ h2, ?_, h4⟩
      · rw [upd, if_neg (by rintro rfl; exact hno q)]; exact h1
      · rw [hd t q, hd r h2]; exact h3
    · rw [List.mem_singleton] at q; subst q
      refine ⟨s, v, by rw [upd, if_pos rfl], List.mem_append_left _ hs, ?_, rfl, hv⟩
      rw [if_pos rfl, hd s hs]
  · have hg : ∀ (i : Nat) (t : Sta), (Q ++ [nx m s v])[i]? = some t → (Q[i]? = some t) ∨ (i = Q.length ∧ t = nx m s v) := fun i t q => by
      rcases Nat.lt_or_ge i Q.length with q' | q'
      · exact .inl (by rwa [List.getElem?_append_left q'] at q)
      · rw [List.getElem?_append_right q'] at q
        rcases (show i = Q.length ∨ Q.length < i by omega) with rfl | q''
        · simp at q; exact .inr ⟨rfl, q.symm⟩
        · rw [List.getElem?_eq_none (by simp; omega)] at q; cases q
    rcases hg i t ht with q | ⟨rfl, rfl⟩ <;> rcases hg j u hu with q' | ⟨rfl, rfl⟩
    · rw [hd t (List.mem_of_getElem? q), hd u (List.mem_of_getElem? q')]; exact h.mono i j t u hij q q'
    · rw [hd t (List.mem_of_getElem? q), if_pos rfl]; exact hfar t (List.mem_of_getElem? q)
    · have := (List.getElem?_eq_some_iff.1 q').1; omega
    · exact Nat.le_refl _
theorem Bfs.back {m : Mch} {b : Sta} {Q : List Sta} {f : Sta → Option (Sta × Int)} {d : Sta → Nat} (h : Bfs m b Q f d) : ∀ (n : Nat) (s : Sta), s ∈ Q → d s = n → n = 0 → s = b
  | n, s, hs, hd, h0 => by
    by_cases e : s = b
    · exact e
    · obtain ⟨r, v, _, _, h3, _⟩ := h.from_ s hs e; omega
end Go.Proofs.YtpbflnfcgcldkaaGreatDoor.Prs
/- The fastest way to a good disc: a state that is being looked at, plain. -/
namespace Go.Proofs.YtpbflnfcgcldkaaGreatDoor.Prs
open Go.Sx Go.Proofs Go.RowKit
open Side (getD_memT)
structure SeenV (m : Mch) (Q : List Sta) (d : Sta → Nat) (i : Nat) (s : Sta) (v : Nat) : Prop where
  at_ : Q[i]? = some s
  none : ∀ (j : Nat) (t : Sta), j < i → Q[j]? = some t → ¬ Goal m t
  all : ∀ (j : Nat) (t : Sta), j < i → Q[j]? = some t → ∀ u, VOk u → nx m t u ∈ Q ∧ d (nx m t u) ≤ d t + 1
  cur : ∀ u : Nat, u < v → nx m s u ∈ Q ∧ d (nx m s u) ≤ d s + 1
  far : ∀ t, t ∈ Q → d t ≤ d s + 1
variable {m : Mch} {b s : Sta} {Q : List Sta} {f : Sta → Option (Sta × Int)} {d : Sta → Nat} {i v : Nat}
theorem Seen.init : Seen m [b] (fun _ => 0) 0 := ⟨Nat.zero_le _, fun j s h => by omega, fun j s h => by omega, fun s t _ _ => Nat.zero_le _⟩
theorem Seen.look (h : Bfs m b Q f d) (hs : Seen m Q d i) (hi : i < Q.length) : SeenV m Q d i (Q.getD i default) 0 := by
  have e := getD_of default hi
  refine ⟨e, hs.none, hs.all, fun u hu => by omega, fun t ht => ?_⟩
  have h1 := getD_of default (show i - 1 < Q.length by omega)
  have := hs.far _ t h1 ht
  have := h.mono (i - 1) i _ _ (by omega) h1 e
  omega
theorem SeenV.done (hs : SeenV m Q d i s 3) (hg : ¬ Goal m s) : Seen m Q d (i + 1) := by
  have hi := (List.getElem?_eq_some_iff.1 hs.at_).1
  refine ⟨hi, fun j t hj hq => ?_, fun j t hj hq => ?_, fun x t hx ht => ?_⟩
  · by_cases e : j = i
    · subst e; rw [hs.at_] at hq; cases hq; exact hg
    · exact hs.none j t (by omega) hq
  · by_cases e : j = i
    · subst e; rw [hs.at_] at hq; cases hq
      intro u hu
      have := hs.cur u.toNat (by unfold VOk at hu; omega)
      rwa [show ((u.toNat : Nat) : Int) = u by unfold VOk at hu; omega] at this
    · exact hs.all j t (by omega) hq
  · rw [Nat.add_sub_cancel, hs.at_] at hx; cases hx
    exact hs.far t ht
theorem SeenV.known (hs : SeenV m Q d i s v) (h : nx m s v ∈ Q) : SeenV m Q d i s (v + 1) := by
  refine ⟨hs.at_, hs.none, hs.all, fun u hu => ?_, hs.far⟩
  by_cases e : u = v
  · subst e; exact ⟨h, hs.far _ h⟩
  · exact hs.cur u (by omega)
theorem SeenV.push (hs : SeenV m Q d i s v) (hno : nx m s v ∉ Q) (hd : ∀ t ∈ Q, (if t = nx m s v then d s + 1 else d t) = d t) : SeenV m (Q ++ [nx m s v]) (fun x => if x = nx m s v then d s + 1 else d x) i s (v + 1) := by
  have hi := (List.getElem?_eq_some_iff.1 hs.at_).1
  have hsQ : s ∈ Q := List.mem_of_getElem? hs.at_
  have hg : ∀ (j : Nat), j ≤ i → (Q ++ [nx m s v])[j]? = Q[j]? := fun j hj => List.getElem?_append_left (by omega)
  refine ⟨by rw [hg i (Nat.le_refl _)]; exact hs.at_, fun j t hj hq => hs.none j t hj (by rwa [hg j (by omega)] at hq), fun j t hj hq u hu => ?_, fun u hu => ?_, fun t ht => ?_⟩
  · rw [hg j (by omega)] at hq
    obtain ⟨h1, h2⟩ := hs.all j t hj hq u hu
    refine ⟨List.mem_append_left _ h1, ?_⟩
    rw [hd _ h1, hd t (List.mem_of_getElem? hq)]; exact h2
  · rw [hd s hsQ]
    by_cases e : u = v
    · subst e; exact ⟨List.mem_append_right _ (List.mem_singleton.2 rfl), by rw [if_pos rfl]; exact Nat.le_refl _⟩
    · obtain ⟨h1, h2⟩ := hs.cur u (by omega)
      exact ⟨List.mem_append_left _ h1, by rw [hd _ h1]; exact h2⟩
  · rw [hd s hsQ]
    rcases List.mem_append.1 ht with q | q
    · rw [hd t q]; exact hs.far t q
    · rw [List.mem_singleton] at q; subst q; rw [if_pos rfl]; exact Nat.le_refl _
structure WayR (m : Mch) (b : Sta) (l : List Int) : Prop where
  goal : Goal m (rn m b l)
  v : ∀ x ∈ l, VOk x
  len : l.length ≤ (pth m).length
structure BackR (m : Mch) (g c : Sta) (n : Nat) (o : List Int) : Prop where
  way : rn m c o.reverse = g
  v : ∀ x ∈ o, VOk x
  len : o.length + n ≤ (pth m).length
theorem BackR.step {g c r : Sta} {n : Nat} {o : List Int} {u : Int} (h : BackR m g c (n + 1) o) (hn : nx m r u = c) (hu : VOk u) : BackR m g r n (o ++ [u]) := by
  refine ⟨?_, fun x hx => ?_, by rw [List.length_append, List.length_singleton]; have := h.len; omega⟩
  · rw [List.reverse_append, List.reverse_singleton, List.singleton_append]
    show rn m (nx m r u) o.reverse = g
    rw [hn]; exact h.way
  · rcases List.mem_append.1 hx with q | q
    · exact h.v x q
    · rw [List.mem_singleton] at q; subst q; exact hu
theorem BackR.done {g : Sta} {o : List Int} (h : BackR m g b 0 o) (hg : Goal m g) : WayR m b o.reverse := ⟨by rw [h.way]; exact hg, fun x hx => h.v x (List.mem_reverse.1 hx), by rw [List.length_reverse]; have := h.len; omega⟩
end Go.Proofs.YtpbflnfcgcldkaaGreatDoor.Prs
/- The fastest way to a good disc, walked. -/
namespace Go.Proofs.YtpbflnfcgcldkaaGreatDoor.Prs
open Go.Sx Go.Proofs Go.RowKit
open Side (eN eN_len eN_one getD_memT sh_trans)
def kS (s : Sta) : Value := .agg #[I s.1, I s.2]
def vS (x : Sta × Int) : Value := .agg #[I x.1.1, I x.1.2, I x.2]
def eS (s : Sta) : List Value := [I s.1, I s.2]
theorem eS_len (s : Sta) : (eS s).length = 2 := rfl
theorem eS_one (s : Sta) : ∀ u ∈ eS s, u.oneCell' = true := fun u h => by
  unfold eS at h; simp only [List.mem_cons, List.not_mem_nil, or_false] at h
  rcases h with rfl | rfl <;> rfl
set_option maxRecDepth 100000 in
theorem twoS : ∃ f0 f1, TwoKey Tryz.prog 293 .i64 .i64 f0 f1 := ⟨_, _, Tryz.underlying293, by decide, by decide, rfl, rfl, Tryz.underlying2, Tryz.underlying2, by kernel_rfl, by kernel_rfl⟩
theorem keyS : KeyOk Tryz.prog 293 kS := by
  obtain ⟨_, _, h⟩ := twoS
  exact KeyOk.two h
theorem zvS : (Tryz.prog.info? 295).bind (·.zero) = some (vS ((0, 0), 0)) := by kernel_rfl
theorem sta_eq (c b : Sta) : (¬ [c.1, c.2] = [b.1, b.2]) = ¬ c = b := by
  rw [List.cons.injEq, List.cons.injEq]
  apply propext
  constructor
  · exact fun h e => h (by rw [e]; exact ⟨rfl, rfl, rfl⟩)
  · exact fun h e => h (Prod.ext e.1 e.2.1)
section
variable {w : World} {m : Mch} {t : Int}
set_option maxRecDepth 20000 in
set_option maxHeartbeats 2000000 in
theorem C_Fastest (h : m.Ok) (ht : m.room ≤ t ∧ t ≤ m.top) : Con Tryz.prog 75 [m.val, I t] w (fun y : List Int × (Option Addr × Nat × Items) => WayR m (t, 0) y.1 ∧ Own 1 3 eN y.1 (.slice y.2.1 y.1.length y.2.2.1) y.2.2.2) (fun y => .tuple #[.slice y.2.1 y.1.length y.2.2.1, I 0]) (fun y => y.2.2.2) := by
  have hb0 : StaOk m (t, 0) := ⟨ht, Int.le_refl _, by have := h.hold; dsimp only; omega⟩
  have h6 := h.hold
  have htop := h.top
  have hroom := h.room
  refine Ret_of (vs := [_, _]) hm none' Tryz.func75 rfl Tryz.ntmps75 rfl ?_
  dsimp only [slotsOf]
  refine GE_seq ?_;refine GE_plain (.ld 0 [] (.st 1 (.st 2 .nil))) rfl ?_;refine GT_box (z := [_, _, _, _, _, _, _, _, _]) rfl rfl rfl rfl rfl rfl rfl (fun _ => GR_nil) (fun b2 => ?_)
  refine GT_st rfl rfl rfl rfl (V_assign rfl rfl) ?_;refine GT_st rfl rfl rfl rfl (V_assign rfl rfl) ?_;refine GT_nil ?_;refine GE_seq ?_;refine GE_seq ?_;refine GE_plain (.st 0 (.ld 1 [] (.st 2 .nil))) rfl ?_;refine GT_st rfl rfl rfl rfl (V_loadN (vs := [_, _, _, _, _, _, _, _, _]) rfl rfl ag_58 sz_58 rfl (CellsAt.item rfl)) ?_;refine GT_call0 rfl rfl rfl rfl rfl rfl rfl rfl rn_66 (fun w hw => C_Check h) (GR_nil) ?_;refine GT_st rfl rfl rfl rfl (V_assign rfl rfl) ?_;refine GT_nil ?_;refine GE_seq ?_;refine GE_slots (L' := [(1, _), (2, _), (6, _)]) ⟨rfl, rfl, rfl, trivial⟩ ?_;refine GE_plain (.st 0 (.st 1 .nil)) rfl ?_;refine GT_st rfl rfl rfl rfl (V_move rfl rfl) ?_;refine GT_st rfl rfl rfl rfl (V_isF (V_neq rfl rfl rfl) (fun q => q rfl)) ?_;refine GT_nil ?_;refine GE_cond_f rfl ?_;refine GE_skip ?_;refine GE_seq ?_;refine GE_seq ?_;refine GE_plain (.st 0 (.st 1 (.st 2 (.st 3 (.st 4 (.ld 5 [] .nil)))))) rfl ?_;refine GT_st rfl rfl rfl rfl (V_move rfl rfl) ?_;refine GT_st rfl rfl rfl rfl (V_field rfl rfl fo_58_0) ?_;refine GT_st rfl rfl rfl rfl (V_load rfl rfl ag_2 (CellAt.item rfl)) ?_;refine GT_st rfl rfl rfl rfl (V_field rfl rfl fo_58_3) ?_;refine GT_st rfl rfl rfl rfl (V_load rfl rfl ag_2 (CellAt.item rfl)) ?_;refine GT_call0 rfl rfl rfl rfl rfl rfl rfl rfl rn_64 (fun w hw => C_out ht) (GR_nil) ?_;refine GT_nil ?_;refine GE_cond_f rfl ?_;refine GE_skip ?_;refine GE_seq ?_;refine GE_slots (L' := [(1, _), (2, _)]) ⟨rfl, rfl, trivial⟩ ?_;refine GE_plain (.st 0 (.st 1 (.ld 2 [] (.ld 3 [] .nil)))) rfl ?_;refine GT_st rfl rfl rfl rfl (V_move rfl rfl) ?_;refine GT_st rfl rfl rfl rfl (V_build (vs := [_, _]) rfl rfl zc_293 pl_293 sa_293 rfl) ?_;refine GT_alloc rfl rfl rfl rfl rfl zc_293 (fun _ => GR_nil) (fun b7 => ?_)
  refine GT_store (vs := [_, _]) (l' := [_, _]) rfl rfl rfl rfl rfl rfl rfl sz_293 rfl rfl (Nat.le_of_ble_eq_true rfl) rfl (GR_nil) ?_;refine GT_nil ?_;refine GE_seq ?_;refine GE_plain (.ld 0 [] (.st 1 (.st 2 (.ld 3 [] (.st 4 (.st 5 .nil)))))) rfl ?_;refine GT_makeMapM kS vS rfl rfl rfl rfl rfl (fun _ _ => GR_nil) (fun b30 ob0 hob0 => ?_)
  refine GT_st rfl rfl rfl rfl (V_loadN (vs := [_, _]) rfl rfl ag_293 sz_293 rfl (CellsAt.item rfl)) ?_;refine GT_st rfl rfl rfl rfl (V_build (vs := [_, _, _]) rfl rfl zc_295 pl_295 sa_295 rfl) ?_;refine GT_insertM (q := ((t, 0) : Sta)) (v := (((0, 0) : Sta), (-1 : Int))) hob0 keyS rfl rfl rfl rfl rfl rfl rfl rfl rfl Tryz.underlying296 (fun _ => GR_nil) (fun ob1 hob1 => ?_)
  refine GT_st rfl rfl rfl rfl (V_move rfl rfl) ?_;refine GT_st rfl rfl rfl rfl (V_assign rfl rfl) ?_;refine GT_nil ?_;refine GE_seq ?_;refine GE_slots (L' := [(2, _), (7, _), (8, _)]) ⟨rfl, rfl, rfl, trivial⟩ ?_;refine GE_plain (.st 0 (.ld 1 [] (.st 2 .nil))) rfl ?_;refine GT_st rfl rfl rfl rfl (V_loadN (vs := [_, _]) rfl rfl ag_293 sz_293 rfl (CellsAt.item rfl)) ?_;refine GT_buildSlice (z := [_, _]) rfl rfl rfl rfl rfl Tryz.underlying297 zc_293 sz_293 (by decide) rfl rfl (fun _ => GR_nil) (fun b35 => ?_)
  skip
  refine GT_st rfl rfl rfl rfl (V_assign rfl rfl) ?_;refine GT_nil ?_;refine GE_seq ?_;refine GE_plain (.st 0 .nil) rfl ?_;refine GT_st rfl rfl rfl rfl (V_assign rfl rfl) ?_;refine GT_nil ?_;refine GE_block ?_;refine GE_to (GE_loop (ι := Nat × List Sta × (Sta → Option (Sta × Int)) × (Sta → Nat) × (Option Addr × Nat × Items) × Obj) (fun z => 26065 - z.1) (fun z => [(2, ptr b2 0), (7, ptr b7 0), (8, .map (some b30)), (9, .slice z.2.2.2.2.1.1 z.2.1.length z.2.2.2.2.1.2.1), (10, I z.1)]) (fun z => (b2, blk m.cells 58) :: (b7, blk [I t, I 0] 293) :: (b30, z.2.2.2.2.2) :: z.2.2.2.2.1.2.2) (fun z => Bfs m (t, 0) z.2.1 z.2.2.1 z.2.2.2.1 ∧ Seen m z.2.1 z.2.2.2.1 z.1 ∧ Own 2 293 eS z.2.1 (.slice z.2.2.2.2.1.1 z.2.1.length z.2.2.2.2.1.2.1) z.2.2.2.2.1.2.2 ∧ MapIs kS vS z.2.2.1 z.2.2.2.2.2) ?_ (0, [(t, 0)], upd (fun _ => none) ((t, 0) : Sta) (some (((0, 0) : Sta), (-1 : Int))), fun _ => 0, (some ⟨b35, 0, none⟩, 1, [(b35, blk [I t, I 0] 293)]), ob1) ?_) ⟨rfl, rfl, rfl, rfl, rfl, trivial⟩ (HS.cons rfl (HS.cons rfl (HS.cons rfl HS.last)))
  · rintro ⟨i, Q, f, d, y, ob⟩ ⟨hB, hSe, hO, hM⟩ ih; dsimp only at hB hSe hO hM ih ⊢; have hi := hB.more h hb0 hSe; have hfew := hB.few h; have hLk := hSe.look hB hi; have hsQ : Q.getD i default ∈ Q := getD_memT hi; have hsok := hB.ok _ hsQ; have hnear := hB.near h hb0 hSe hLk.at_; generalize hsd : Q.getD i default = s at *
    refine GE_seq ?_;refine GE_block ?_;refine GE_seq ?_;refine GE_plain (.st 0 (.st 1 (.st 2 (.st 3 (.ld 4 [] (.ld 5 [] .nil)))))) rfl ?_;refine GT_st rfl rfl rfl rfl (V_move rfl rfl) ?_;refine GT_st rfl rfl rfl rfl (V_move rfl rfl) ?_;refine GT_st rfl rfl rfl rfl (V_index rfl rfl rfl Tryz.underlying297 sz_293 (k := i) rfl hi (hO.isSome hi)) ?_;refine GT_st rfl rfl rfl rfl (V_loadN (vs := [_, _]) rfl rfl ag_293 sz_293 rfl (CellsAt.ownE hO eS_len hi (by rw [hsd]; rfl))) ?_;refine GT_alloc rfl rfl rfl rfl rfl zc_293 (fun _ => GR_nil) (fun b11 => ?_)
    refine GT_store (vs := [_, _]) (l' := [_, _]) rfl rfl rfl rfl rfl rfl rfl sz_293 rfl rfl (Nat.le_of_ble_eq_true rfl) rfl (GR_nil) ?_;refine GT_nil ?_;refine GE_seq ?_;refine GE_cut (ι := Bool) (fun bv => [(2, ptr b2 0), (7, ptr b7 0), (8, .map (some b30)), (9, .slice y.1 Q.length y.2.1), (10, I i), (11, ptr b11 0), (53, .bool bv)]) (fun bv => (b2, blk m.cells 58) :: (b7, blk [I t, I 0] 293) :: (b11, blk (eS s) 293) :: (b30, ob) :: y.2.2) (fun bv => (bv = true ↔ Goal m s)) ?_ (fun hk => ?_)
    · intro bv hbv
      refine GE_condB rfl (fun q2 => ?_) (fun q2 => ?_)
      · have hgo : Goal m s := hbv.1 q2
        refine GE_seq ?_;refine GE_slots (L' := [(7, _), (8, _), (11, _)]) ⟨rfl, rfl, rfl, trivial⟩ ?_;refine GE_plain (.st 0 .nil) rfl ?_;refine GT_st rfl rfl rfl rfl (V_assign rfl rfl) ?_;refine GT_nil ?_;refine GE_seq ?_;refine GE_block ?_;refine GE_to (GE_loop (ι := Sta × List Int × (Option Addr × Nat × Items)) (fun z => d z.1) (fun z => [(7, ptr b7 0), (8, .map (some b30)), (11, ptr b11 0), (12, .slice z.2.2.1 z.2.1.length z.2.2.2.1)]) (fun z => (b7, blk [I t, I 0] 293) :: (b11, blk (eS z.1) 293) :: (b30, ob) :: z.2.2.2.2) (fun z => z.1 ∈ Q ∧ BackR m s z.1 (d z.1) z.2.1 ∧ Own 1 3 eN z.2.1 (.slice z.2.2.1 z.2.1.length z.2.2.2.1) z.2.2.2.2) ?_ (s, [], (none, 0, [])) ?_) ⟨rfl, rfl, rfl, rfl, trivial⟩ (HS.cons rfl (HS.cons rfl (HS.cons rfl HS.nil)))
        · rintro ⟨c, o, u⟩ ⟨hcQ, hbk, hU⟩ ih2; dsimp only at hcQ hbk hU ih2 ⊢; have hol := hbk.len; have hpl : (pth m).length ≤ 2000 := pth_big h
          refine GE_seq ?_;refine GE_seq ?_;refine GE_plain (.st 0 (.st 1 (.st 2 .nil))) rfl ?_;refine GT_st rfl rfl rfl rfl (V_loadN (vs := [_, _]) rfl rfl ag_293 sz_293 rfl (CellsAt.item rfl)) ?_;refine GT_st rfl rfl rfl rfl (V_loadN (vs := [_, _]) rfl rfl ag_293 sz_293 rfl (CellsAt.item rfl)) ?_;refine GT_st rfl rfl rfl rfl (V_eqv (v' := .bool (decide (¬ c = ((t, 0) : Sta)))) (V_neqInts (zs := [_, _]) (zs' := [_, _]) rfl rfl rfl is_293 rfl rfl) (congrArg Value.bool (decide_eq_decide.2 (iff_of_eq (sta_eq c (t, 0)))))) ?_;refine GT_nil ?_;refine GE_condNot rfl (fun q3 => ?_) (fun q3 => ?_)
          · obtain ⟨r, v, hf1, hf2, hf3, hf4, hf5⟩ := hB.from_ c hcQ q3; rw [hf3] at hbk
            refine GE_skip ?_;refine GE_block ?_;refine GE_seq ?_;refine GE_plain (.st 0 (.st 1 (.st 2 (.st 3 (.st 4 (.ld 5 [] (.ld 6 [] (.ld 7 [] .nil)))))))) rfl ?_;refine GT_st rfl rfl rfl rfl (V_move rfl rfl) ?_;refine GT_st rfl rfl rfl rfl (V_move rfl rfl) ?_;refine GT_st rfl rfl rfl rfl (V_loadN (vs := [_, _]) rfl rfl ag_293 sz_293 rfl (CellsAt.item rfl)) ?_;refine GT_st rfl rfl rfl rfl (V_eqv (v' := vS (r, v)) (V_lookupM (q := c) (z := (((0, 0) : Sta), (0 : Int))) hM keyS rfl rfl rfl rfl Tryz.underlying296 zvS) (by rw [hf1]; rfl)) ?_;refine GT_st rfl rfl rfl rfl (V_field1 rfl rfl fi_295_1 rfl) ?_;refine GT_buildSlice (z := [_]) rfl rfl rfl rfl rfl Tryz.underlying38 zc_3 sz_3 (by decide) rfl rfl (fun _ => GR_nil) (fun b62 => ?_)
            refine GT_append (enc := eN) (l := o) (m := [v]) rfl rfl rfl rfl rfl rfl rfl hU (fun w m => RdL.own' m eN_len) Tryz.underlying38 zc_3 sz_3 ⟨rfl, by decide⟩ by_3 ⟨by simp only [List.length_singleton]; omega, by simp only [List.length_singleton]; omega⟩ eN_len eN_one (fun _ _ _ _ => GR_nil) (fun A3 c3 I3 hO3 => ?_)
            refine GT_ldv rfl rfl rfl rfl rfl (V_assign rfl rfl) (GR_nil) ?_;refine GT_nil ?_;refine GE_slots (L' := [(7, _), (8, _), (11, _), (12, _)]) ⟨rfl, rfl, rfl, rfl, trivial⟩ ?_;refine GE_plain (.st 0 (.st 1 (.st 2 (.st 3 (.ld 4 [] .nil))))) rfl ?_;refine GT_st rfl rfl rfl rfl (V_move rfl rfl) ?_;refine GT_st rfl rfl rfl rfl (V_loadN (vs := [_, _]) rfl rfl ag_293 sz_293 rfl (CellsAt.item rfl)) ?_;refine GT_st rfl rfl rfl rfl (V_eqv (v' := vS (r, v)) (V_lookupM (q := c) (z := (((0, 0) : Sta), (0 : Int))) hM keyS rfl rfl rfl rfl Tryz.underlying296 zvS) (by rw [hf1]; rfl)) ?_;refine GT_st rfl rfl rfl rfl (V_fieldN (vs := [_, _]) rfl rfl fi_295_0 rfl) ?_;refine GT_store (vs := [_, _]) (l' := [_, _]) rfl rfl rfl rfl rfl rfl rfl sz_293 rfl rfl (Nat.le_of_ble_eq_true rfl) rfl (GR_nil) ?_;refine GT_nil ?_;refine GE_inBlock ?_
            exact GE_to (ih2 (r, o ++ [v], (A3, c3, I3)) ⟨hf2, hbk.step hf4 hf5, hO3⟩ (by dsimp only; omega)) ⟨rfl, rfl, rfl, rfl, trivial⟩ (HS.cons rfl (HS.cons rfl (HS.cons rfl HS.last)))
          · have q3 : c = (t, 0) := (by first | exact q3 | exact Decidable.not_not.1 q3); subst q3; have hd0 := hB.d0; rw [hd0] at hbk
            refine GE_exit rfl ?_;refine GE_seq ?_;refine GE_slots (L' := [(12, _)]) ⟨rfl, trivial⟩ ?_;refine GE_plain (.st 0 (.ld 1 [] .nil)) rfl ?_;refine GT_st rfl rfl rfl rfl (V_move rfl rfl) ?_;refine GT_callX rfl rfl rfl rfl rfl rfl rfl rfl rn_129 (fun w m => C_ReverseI m hU (by omega)) (fun _ _ => GR_nil) (fun I6 hO6 => ?_)
            refine GT_nil ?_;refine GE_seq ?_;refine GE_plain (.st 0 (.st 1 (.st 2 .nil))) rfl ?_;refine GT_st rfl rfl rfl rfl (V_move rfl rfl) ?_;refine GT_st rfl rfl rfl rfl (V_assign rfl rfl) ?_;refine GT_st rfl rfl rfl rfl (V_assign rfl rfl) ?_;refine GT_nil ?_;refine GE_ret Tryz.func75 ⟨_, _, rfl, rfl, rfl⟩ (fun w hw => ?_)
            exact ⟨(o.reverse, (u.1, u.2.1, I6)), ⟨hbk.done hgo, by rw [List.length_reverse]; exact hO6⟩, by rw [List.length_reverse], hw.hs (C := cx Tryz.prog hm 0 0 _ none' fun _ _ => True) HS.last⟩
        · exact ⟨hsQ, ⟨rfl, fun x hx => (by cases hx), by simpa using hnear⟩, Own.nil⟩
      · have hng : ¬ Goal m s := fun q => absurd (hbv.2 q) (by rw [q2]; decide)
        refine GE_skip ?_;refine GE_seq ?_;refine GE_plain (.st 0 .nil) rfl ?_;refine GT_st rfl rfl rfl rfl (V_move rfl rfl) ?_;refine GT_nil ?_;refine GE_block ?_;refine GE_to (GE_loop (ι := Nat × List Sta × (Sta → Option (Sta × Int)) × (Sta → Nat) × (Option Addr × Nat × Items) × Obj) (fun z => 3 - z.1) (fun z => [(2, ptr b2 0), (7, ptr b7 0), (8, .map (some b30)), (9, .slice z.2.2.2.2.1.1 z.2.1.length z.2.2.2.2.1.2.1), (10, I i), (11, ptr b11 0), (71, I z.1)]) (fun z => (b2, blk m.cells 58) :: (b7, blk [I t, I 0] 293) :: (b11, blk (eS s) 293) :: (b30, z.2.2.2.2.2) :: z.2.2.2.2.1.2.2) (fun z => z.1 ≤ 3 ∧ Bfs m (t, 0) z.2.1 z.2.2.1 z.2.2.2.1 ∧ SeenV m z.2.1 z.2.2.2.1 i s z.1 ∧ Own 2 293 eS z.2.1 (.slice z.2.2.2.2.1.1 z.2.1.length z.2.2.2.2.1.2.1) z.2.2.2.2.1.2.2 ∧ MapIs kS vS z.2.2.1 z.2.2.2.2.2) ?_ (0, Q, f, d, y, ob) ?_) ⟨rfl, rfl, rfl, rfl, rfl, rfl, rfl, trivial⟩ (HS.cons rfl (HS.cons rfl (HS.cons rfl (HS.cons rfl HS.last))))
        · rintro ⟨v, Q1, f1, d1, y1, ob2⟩ ⟨hv, hB1, hS1, hO1, hM1⟩ ih3; dsimp only at hv hB1 hS1 hO1 hM1 ih3 ⊢
          refine GE_seq ?_;refine GE_plain (.st 0 .nil) rfl ?_;refine GT_st rfl rfl rfl rfl (V_lss rfl rfl rfl) ?_;refine GT_nil ?_;refine GE_seq ?_;refine GE_cond rfl (fun q4 => ?_) (fun q4 => ?_)
          · have hv3 : v < 3 := (by omega); have hsQ1 : s ∈ Q1 := List.mem_of_getElem? hS1.at_; have hvo : VOk (v : Int) := (by unfold VOk; omega); have hfew1 := hB1.few h; have htk := tickM_bd (v := (v : Int)) h hsok.1; have hs2 := hsok.2
            refine GE_skip ?_;refine GE_seq ?_;refine GE_block ?_;refine GE_seq ?_;refine GE_plain (.st 0 (.st 1 .nil)) rfl ?_;refine GT_st rfl rfl rfl rfl (V_move rfl rfl) ?_;refine GT_st rfl rfl rfl rfl (V_assign rfl rfl) ?_;refine GT_nil ?_;refine GE_cut (ι := Nat) (fun b14 => [(2, ptr b2 0), (7, ptr b7 0), (8, .map (some b30)), (9, .slice y1.1 Q1.length y1.2.1), (10, I i), (11, ptr b11 0), (13, I v), (14, ptr b14 0), (71, I v)]) (fun b14 => (b2, blk m.cells 58) :: (b7, blk [I t, I 0] 293) :: (b11, blk (eS s) 293) :: (b14, blk [I (tickM m s.1 v), I s.2] 293) :: (b30, ob2) :: y1.2.2) (fun b14 => True) ?_ (fun hk => ?_)
            · intro b14 _
              refine GE_cut (ι := Unit) (fun _ => [(2, ptr b2 0), (7, ptr b7 0), (8, .map (some b30)), (9, .slice y1.1 Q1.length y1.2.1), (10, I i), (11, ptr b11 0), (13, I v), (14, ptr b14 0), (71, I v)]) (fun _ => (b2, blk m.cells 58) :: (b7, blk [I t, I 0] 293) :: (b11, blk (eS s) 293) :: (b14, blk (eS (nx m s v)) 293) :: (b30, ob2) :: y1.2.2) (fun _ => True) ?_ (fun hk => ?_)
              · intro _ hx
                refine GE_seq ?_;refine GE_plain (.st 0 (.st 1 (.st 2 (.st 3 (.st 4 (.st 5 (.ld 6 [] (.ld 7 [] (.st 8 .nil))))))))) rfl ?_;refine GT_st rfl rfl rfl rfl (V_move rfl rfl) ?_;refine GT_st rfl rfl rfl rfl (V_loadN (vs := [_, _]) rfl rfl ag_293 sz_293 rfl (CellsAt.item rfl)) ?_;refine GT_st rfl rfl rfl rfl (V_lookupOkM (q := nx m s v) (z := (((0, 0) : Sta), (0 : Int))) hM1 keyS rfl rfl rfl rfl Tryz.underlying296 zvS) ?_;refine GT_st rfl rfl rfl rfl (V_move rfl rfl) ?_;refine GT_st rfl rfl rfl rfl (V_extract rfl rfl rfl) ?_;refine GT_st rfl rfl rfl rfl (V_extract rfl rfl rfl) ?_;refine GT_alloc rfl rfl rfl rfl rfl zc_295 (fun _ => GR_nil) (fun b15 => ?_)
                refine GT_store (vs := [_, _, _]) (l' := [_, _, _]) rfl rfl rfl rfl rfl rfl rfl sz_295 rfl rfl (Nat.le_of_ble_eq_true rfl) rfl (GR_nil) ?_;refine GT_st rfl rfl rfl rfl (V_assign rfl rfl) ?_;refine GT_nil ?_;refine GE_seq ?_;refine GE_slots (L' := [(2, _), (7, _), (8, _), (9, _), (10, _), (11, _), (13, _), (14, _), (16, _), (71, _)]) ⟨rfl, rfl, rfl, rfl, rfl, rfl, rfl, rfl, rfl, rfl, trivial⟩ ?_;refine GE_plain (.st 0 (.st 1 .nil)) rfl ?_;refine GT_st rfl rfl rfl rfl (V_move rfl rfl) ?_;refine GT_st rfl rfl rfl rfl (V_notB rfl rfl) ?_;refine GT_nil ?_;refine GE_condNotB rfl (fun q6 => ?_) (fun q6 => ?_)
                · have hno : nx m s v ∉ Q1 := (by rw [← hB1.dom, q6]; decide); have hpu := hB1.push h hsQ1 hvo (Option.not_isSome_iff_eq_none.1 (by rw [q6]; decide)) hS1.far
                  refine GE_seq ?_;refine GE_plain (.st 0 (.st 1 (.st 2 (.st 3 (.st 4 (.ld 5 [] .nil)))))) rfl ?_;refine GT_st rfl rfl rfl rfl (V_move rfl rfl) ?_;refine GT_st rfl rfl rfl rfl (V_loadN (vs := [_, _]) rfl rfl ag_293 sz_293 rfl (CellsAt.item rfl)) ?_;refine GT_st rfl rfl rfl rfl (V_loadN (vs := [_, _]) rfl rfl ag_293 sz_293 rfl (CellsAt.item rfl)) ?_;refine GT_st rfl rfl rfl rfl (V_move rfl rfl) ?_;refine GT_st rfl rfl rfl rfl (V_build (vs := [_, _, _]) rfl rfl zc_295 pl_295 sa_295 rfl) ?_;refine GT_mapUpdateM (q := nx m s v) (v := (s, (v : Int))) hM1 keyS rfl rfl rfl rfl rfl rfl rfl rfl rfl Tryz.underlying296 (fun _ => GR_nil) (fun ob3 hob3 => ?_)
                  refine GT_nil ?_;refine GE_slots (L' := [(2, _), (7, _), (8, _), (9, _), (10, _), (11, _), (14, _), (71, _)]) ⟨rfl, rfl, rfl, rfl, rfl, rfl, rfl, rfl, trivial⟩ ?_;refine GE_plain (.st 0 (.st 1 (.ld 2 [] (.ld 3 [] (.ld 4 [] .nil))))) rfl ?_;refine GT_st rfl rfl rfl rfl (V_move rfl rfl) ?_;refine GT_st rfl rfl rfl rfl (V_loadN (vs := [_, _]) rfl rfl ag_293 sz_293 rfl (CellsAt.item rfl)) ?_;refine GT_buildSlice (z := [_, _]) rfl rfl rfl rfl rfl Tryz.underlying297 zc_293 sz_293 (by decide) rfl rfl (fun _ => GR_nil) (fun b109 => ?_)
                  refine GT_append (enc := eS) (l := Q1) (m := [nx m s v]) rfl rfl rfl rfl rfl rfl rfl hO1 (fun w m => RdL.own' m eS_len) Tryz.underlying297 zc_293 sz_293 ⟨rfl, by decide⟩ by_293 ⟨by simp only [List.length_singleton]; omega, by simp only [List.length_singleton]; omega⟩ eS_len eS_one (fun _ _ _ _ => GR_nil) (fun A3 c3 I3 hO3 => ?_)
                  refine GT_ldv rfl rfl rfl rfl rfl (V_assign rfl rfl) (GR_nil) ?_;refine GT_nil ?_;refine GE_inBlock ?_;refine GE_slots (L' := [(2, _), (7, _), (8, _), (9, _), (10, _), (11, _), (71, _)]) ⟨rfl, rfl, rfl, rfl, rfl, rfl, rfl, trivial⟩ ?_;refine GE_plain (.st 0 (.ld 1 [] .nil)) rfl ?_;refine GT_st rfl rfl rfl rfl (V_add rfl rfl rfl (wrap_i64 (by omega))) ?_;refine GT_ldv rfl rfl rfl rfl rfl (V_move rfl rfl) (GR_nil) ?_;refine GT_nil ?_
                  first
                    | exact GE_to (ih3 (v + 1, _, _, _, (A3, c3, I3), ob3) ⟨by dsimp only; omega, hpu.1, hS1.push hno hpu.2, hO3, hob3⟩ (by dsimp only; omega)) ⟨rfl, rfl, rfl, rfl, rfl, rfl, rfl, trivial⟩ (HS.cons rfl (HS.cons rfl (HS.cons rfl (HS.cons rfl HS.last))))
                    | exact GE_to (ih3 (v + 1, Q1, f1, d1, y1, ob2) ⟨by dsimp only; omega, hB1, hS1.known hyes, hO1, hM1⟩ (by dsimp only; omega)) ⟨rfl, rfl, rfl, rfl, rfl, rfl, rfl, trivial⟩ (HS.cons rfl (HS.cons rfl (HS.cons rfl (HS.cons rfl HS.last))))
                · have hyes : nx m s v ∈ Q1 := (hB1.dom _).1 q6
                  refine GE_skip ?_;refine GE_inBlock ?_;refine GE_slots (L' := [(2, _), (7, _), (8, _), (9, _), (10, _), (11, _), (71, _)]) ⟨rfl, rfl, rfl, rfl, rfl, rfl, rfl, trivial⟩ ?_;refine GE_plain (.st 0 (.ld 1 [] .nil)) rfl ?_;refine GT_st rfl rfl rfl rfl (V_add rfl rfl rfl (wrap_i64 (by omega))) ?_;refine GT_ldv rfl rfl rfl rfl rfl (V_move rfl rfl) (GR_nil) ?_;refine GT_nil ?_
                  first
                    | exact GE_to (ih3 (v + 1, _, _, _, (A3, c3, I3), ob3) ⟨by dsimp only; omega, hpu.1, hS1.push hno hpu.2, hO3, hob3⟩ (by dsimp only; omega)) ⟨rfl, rfl, rfl, rfl, rfl, rfl, rfl, trivial⟩ (HS.cons rfl (HS.cons rfl (HS.cons rfl (HS.cons rfl HS.last))))
                    | exact GE_to (ih3 (v + 1, Q1, f1, d1, y1, ob2) ⟨by dsimp only; omega, hB1, hS1.known hyes, hO1, hM1⟩ (by dsimp only; omega)) ⟨rfl, rfl, rfl, rfl, rfl, rfl, rfl, trivial⟩ (HS.cons rfl (HS.cons rfl (HS.cons rfl (HS.cons rfl HS.last))))
              · refine GE_seq ?_;refine GE_plain (.st 0 (.st 1 (.st 2 (.st 3 (.st 4 .nil))))) rfl ?_;refine GT_st rfl rfl rfl rfl (V_field rfl rfl fo_293_0) ?_;refine GT_st rfl rfl rfl rfl (V_load rfl rfl ag_2 (CellAt.item rfl)) ?_;refine GT_st rfl rfl rfl rfl (V_field rfl rfl fo_58_1) ?_;refine GT_st rfl rfl rfl rfl (V_load rfl rfl ag_2 (CellAt.item rfl)) ?_;refine GT_st rfl rfl rfl rfl (V_geq rfl rfl rfl) ?_;refine GT_nil ?_;refine GE_cond rfl (fun q5 => ?_) (fun q5 => ?_)
                · refine GE_slots (L' := [(2, _), (7, _), (8, _), (9, _), (10, _), (11, _), (13, _), (14, _), (71, _)]) ⟨rfl, rfl, rfl, rfl, rfl, rfl, rfl, rfl, rfl, trivial⟩ ?_;refine GE_plain (.st 0 (.st 1 (.st 2 (.st 3 (.st 4 (.st 5 (.st 6 (.ld 7 [] .nil)))))))) rfl ?_;refine GT_st rfl rfl rfl rfl (V_field rfl rfl fo_58_7) ?_;refine GT_st rfl rfl rfl rfl (V_load rfl rfl ag_2 (CellAt.item rfl)) ?_;refine GT_st rfl rfl rfl rfl (V_field rfl rfl fo_293_1) ?_;refine GT_st rfl rfl rfl rfl (V_load rfl rfl ag_2 (CellAt.item rfl)) ?_;refine GT_st rfl rfl rfl rfl (V_add rfl rfl rfl (wrap_i64 (by omega))) ?_;refine GT_st rfl rfl rfl rfl (V_min rfl rfl rfl) ?_;refine GT_st rfl rfl rfl rfl (V_field rfl rfl fo_293_1) ?_;refine GT_store (vs := [_]) (l' := [_, _]) rfl rfl rfl rfl rfl rfl rfl sz_2 rfl rfl (Nat.le_of_ble_eq_true rfl) rfl (GR_nil) ?_;refine GT_nil ?_
                  exact GE_to (hk () trivial) ⟨rfl, rfl, rfl, rfl, rfl, rfl, rfl, rfl, rfl, trivial⟩ (HS.cons rfl (HS.cons rfl (HS.cons rfl (HS.cons (by unfold nx; first | (rw [if_pos (by omega)]; rfl) | (rw [if_neg (by omega)]; rfl)) (HS.cons rfl HS.last)))))
                · refine GE_skip ?_
                  exact GE_to (hk () trivial) ⟨rfl, rfl, rfl, rfl, rfl, rfl, rfl, rfl, rfl, trivial⟩ (HS.cons rfl (HS.cons rfl (HS.cons rfl (HS.cons (by unfold nx; first | (rw [if_pos (by omega)]; rfl) | (rw [if_neg (by omega)]; rfl)) (HS.cons rfl HS.last)))))
            · refine GE_drawn (.st 0 (.st 1 (.st 2 (.st 3 (.st 5 (.st 6 (.br (.ld 4 [5, 6] (.st 7 (.ld 8 [0, 1, 2, 3, 5, 6, 7] (.ld 9 [] .nil)))) (.ld 8 [0, 1, 2, 3, 5, 6] (.ld 4 [5, 6] (.st 7 (.ld 9 [] .nil))))))))))) [4, 8, 9] (by decide +kernel) ?_;refine GT_st rfl rfl rfl rfl (V_loadN (vs := [_, _, _, _, _, _, _, _, _]) rfl rfl ag_58 sz_58 rfl (CellsAt.item rfl)) ?_;refine GT_st rfl rfl rfl rfl (V_field rfl rfl fo_293_0) ?_;refine GT_st rfl rfl rfl rfl (V_load rfl rfl ag_2 (CellAt.item rfl)) ?_;refine GT_st rfl rfl rfl rfl (V_move rfl rfl) ?_;refine GT_st rfl rfl rfl rfl (V_field rfl rfl fo_293_1) ?_;refine GT_st rfl rfl rfl rfl (V_load rfl rfl ag_2 (CellAt.item rfl)) ?_;refine GT_br ?_ ?_
              · refine GT_call0 rfl rfl rfl rfl rfl rfl rfl rfl rn_108 (fun w hw => C_tick h hsok.1) (GR_cons rfl rfl rfl rfl ((by first | exact V_field rfl rfl fo_293_1 | exact V_fieldA rfl rfl fo_293_1)) (GR_cons rfl rfl rfl rfl (V_load rfl rfl ag_2 (CellAt.item rfl)) (GR_nil))) ?_;refine GT_st rfl rfl rfl rfl (V_build (vs := [_, _]) rfl rfl zc_293 pl_293 sa_293 rfl) ?_;refine GT_alloc rfl rfl rfl rfl rfl zc_293 (fun _ => GR_cons rfl rfl rfl rfl (V_loadN (vs := [_, _, _, _, _, _, _, _, _]) rfl rfl ag_58 sz_58 rfl (CellsAt.item rfl)) (GR_cons rfl rfl rfl rfl ((by first | exact V_field rfl rfl fo_293_0 | exact V_fieldA rfl rfl fo_293_0)) (GR_cons rfl rfl rfl rfl (V_load rfl rfl ag_2 (CellAt.item rfl)) (GR_cons rfl rfl rfl rfl (V_move rfl rfl) (GR_cons rfl rfl rfl rfl ((by first | exact V_field rfl rfl fo_293_1 | exact V_fieldA rfl rfl fo_293_1)) (GR_cons rfl rfl rfl rfl (V_load rfl rfl ag_2 (CellAt.item rfl)) (GR_cons rfl rfl rfl rfl (V_build (vs := [_, _]) rfl rfl zc_293 pl_293 sa_293 rfl) (GR_nil)))))))) (fun b14 => ?_)
                refine GT_store (vs := [_, _]) (l' := [_, _]) rfl rfl rfl rfl rfl rfl rfl sz_293 rfl rfl (Nat.le_of_ble_eq_true rfl) rfl (GR_nil) ?_;refine GT_nil ?_
                exact GE_to (hk b14 trivial) ⟨rfl, rfl, rfl, rfl, rfl, rfl, rfl, rfl, rfl, trivial⟩ (HS.cons rfl (HS.cons rfl (HS.cons rfl (HS.cons rfl (HS.cons rfl HS.last)))))
              · refine GT_alloc rfl rfl rfl rfl rfl zc_293 (fun _ => GR_cons rfl rfl rfl rfl (V_loadN (vs := [_, _, _, _, _, _, _, _, _]) rfl rfl ag_58 sz_58 rfl (CellsAt.item rfl)) (GR_cons rfl rfl rfl rfl ((by first | exact V_field rfl rfl fo_293_0 | exact V_fieldA rfl rfl fo_293_0)) (GR_cons rfl rfl rfl rfl (V_load rfl rfl ag_2 (CellAt.item rfl)) (GR_cons rfl rfl rfl rfl (V_move rfl rfl) (GR_cons rfl rfl rfl rfl ((by first | exact V_field rfl rfl fo_293_1 | exact V_fieldA rfl rfl fo_293_1)) (GR_cons rfl rfl rfl rfl (V_load rfl rfl ag_2 (CellAt.item rfl)) (GR_nil))))))) (fun b14 => ?_)
                refine GT_call0 rfl rfl rfl rfl rfl rfl rfl rfl rn_108 (fun w hw => C_tick h hsok.1) (GR_cons rfl rfl rfl rfl ((by first | exact V_field rfl rfl fo_293_1 | exact V_fieldA rfl rfl fo_293_1)) (GR_cons rfl rfl rfl rfl (V_load rfl rfl ag_2 (CellAt.item rfl)) (GR_nil))) ?_;refine GT_st rfl rfl rfl rfl (V_build (vs := [_, _]) rfl rfl zc_293 pl_293 sa_293 rfl) ?_;refine GT_store (vs := [_, _]) (l' := [_, _]) rfl rfl rfl rfl rfl rfl rfl sz_293 rfl rfl (Nat.le_of_ble_eq_true rfl) rfl (GR_nil) ?_;refine GT_nil ?_
                exact GE_to (hk b14 trivial) ⟨rfl, rfl, rfl, rfl, rfl, rfl, rfl, rfl, rfl, trivial⟩ (HS.cons rfl (HS.cons rfl (HS.cons rfl (HS.cons rfl (HS.cons rfl HS.last)))))
          · obtain rfl : v = 3 := (by omega)
            refine GE_exit rfl ?_;refine GE_inBlock ?_;refine GE_plain (.st 0 (.st 1 (.ld 2 [] .nil))) rfl ?_;refine GT_st rfl rfl rfl rfl (V_move rfl rfl) ?_;refine GT_st rfl rfl rfl rfl (V_add rfl rfl rfl (wrap_i64 (by omega))) ?_;refine GT_ldv rfl rfl rfl rfl rfl (V_assign rfl rfl) (GR_nil) ?_;refine GT_nil ?_
            exact GE_to (ih (i + 1, Q1, f1, d1, y1, ob2) ⟨hB1, hS1.done hng, hO1, hM1⟩ (by dsimp only; have := hB1.few h; have := (List.getElem?_eq_some_iff.1 hS1.at_).1; omega)) ⟨rfl, rfl, rfl, rfl, rfl, trivial⟩ (HS.cons rfl (HS.cons rfl (HS.cons rfl HS.last)))
        · exact ⟨Nat.zero_le _, hB, hLk, hO, hM⟩
    · refine GE_slots (L' := [(2, _), (7, _), (8, _), (9, _), (10, _), (11, _)]) ⟨rfl, rfl, rfl, rfl, rfl, rfl, trivial⟩ ?_;refine GE_plain (.st 0 (.st 1 (.st 2 (.st 3 (.st 4 (.st 5 (.st 6 (.st 7 (.st 8 (.st 9 (.st 10 (.st 11 .nil)))))))))))) rfl ?_;refine GT_st rfl rfl rfl rfl (V_field rfl rfl fo_293_1) ?_;refine GT_st rfl rfl rfl rfl (V_load rfl rfl ag_2 (CellAt.item rfl)) ?_;refine GT_st rfl rfl rfl rfl (V_field rfl rfl fo_58_7) ?_;refine GT_st rfl rfl rfl rfl (V_load rfl rfl ag_2 (CellAt.item rfl)) ?_;refine GT_st rfl rfl rfl rfl (V_eql rfl rfl rfl) ?_;refine GT_st rfl rfl rfl rfl (V_move rfl rfl) ?_;refine GT_split (d := 47) rfl (fun q1 => ?_) (fun q1 => ?_)
      · refine GT_st_g rfl rfl rfl rfl rfl rfl rfl (V_field rfl rfl fo_293_0) ?_;refine GT_st_g rfl rfl rfl rfl rfl rfl rfl (V_load rfl rfl ag_2 (CellAt.item rfl)) ?_;refine GT_st_g rfl rfl rfl rfl rfl rfl rfl (V_field rfl rfl fo_58_2) ?_;refine GT_st_g rfl rfl rfl rfl rfl rfl rfl (V_load rfl rfl ag_2 (CellAt.item rfl)) ?_;refine GT_st_g rfl rfl rfl rfl rfl rfl rfl (V_leq rfl rfl rfl) ?_;refine GT_st rfl rfl rfl rfl (V_pick_t rfl rfl rfl) ?_;refine GT_nil ?_
        first
          | exact GE_to (hk (decide (s.1 ≤ m.cool)) (by rw [decide_eq_true_eq]; exact ⟨fun q => ⟨q1, q⟩, fun q => q.2⟩)) ⟨rfl, rfl, rfl, rfl, rfl, rfl, rfl, trivial⟩ (HS.cons rfl (HS.cons rfl (HS.cons rfl (HS.cons rfl HS.last))))
          | exact GE_to (hk false ⟨fun q => (by cases q), fun q => absurd q.1 q1⟩) ⟨rfl, rfl, rfl, rfl, rfl, rfl, rfl, trivial⟩ (HS.cons rfl (HS.cons rfl (HS.cons rfl (HS.cons rfl HS.last))))
      · refine GT_skip rfl rfl rfl rfl rfl (by decide) rfl rfl ?_;refine GT_skip rfl rfl rfl rfl rfl (by decide) rfl rfl ?_;refine GT_skip rfl rfl rfl rfl rfl (by decide) rfl rfl ?_;refine GT_skip rfl rfl rfl rfl rfl (by decide) rfl rfl ?_;refine GT_skip rfl rfl rfl rfl rfl (by decide) rfl rfl ?_;refine GT_st rfl rfl rfl rfl (V_pick_f rfl rfl rfl) ?_;refine GT_nil ?_
        first
          | exact GE_to (hk (decide (s.1 ≤ m.cool)) (by rw [decide_eq_true_eq]; exact ⟨fun q => ⟨q1, q⟩, fun q => q.2⟩)) ⟨rfl, rfl, rfl, rfl, rfl, rfl, rfl, trivial⟩ (HS.cons rfl (HS.cons rfl (HS.cons rfl (HS.cons rfl HS.last))))
          | exact GE_to (hk false ⟨fun q => (by cases q), fun q => absurd q.1 q1⟩) ⟨rfl, rfl, rfl, rfl, rfl, rfl, rfl, trivial⟩ (HS.cons rfl (HS.cons rfl (HS.cons rfl (HS.cons rfl HS.last))))
  · exact ⟨Bfs.init hb0, Seen.init, Own.lit rfl rfl (show 1 ≤ maxLen by decide), hob1⟩
end
end Go.Proofs.YtpbflnfcgcldkaaGreatDoor.Prs
/- A disc is pressed on the fastest way, walked. -/
namespace Go.Proofs.YtpbflnfcgcldkaaGreatDoor.Prs
open Go.Sx Go.Proofs Go.RowKit
open Side (eN eN_len eN_one getD_memT sh_trans)
abbrev prB (b : Nat) : Obj := blk [ptr b 0] 177
theorem rn_succ {m : Mch} {s : Sta} {l : List Int} {i : Nat} (h : i < l.length) : rn m s (l.take (i + 1)) = nx m (rn m s (l.take i)) (l.getD i default) := by
  rw [List.take_succ_eq_append_getElem h, rn_app]
  simp [List.getD, h, rn]
section
variable {w w0 : World} {l : List Dsc} {f : Int → Option Int} {G : Items} {m : Mch} {h : Ph} {p : Nat} {v t hd pk ti a b : Int}
set_option maxRecDepth 20000 in
set_option maxHeartbeats 2000000 in
theorem C_pressOne (h0 : m.Ok) (h150 : m.top ≤ 150) (hh6 : m.hold ≤ 6) (ht : m.room ≤ t ∧ t ≤ m.top) (ha : 1 ≤ a) (hab : a ≠ b) (hua : 0 ≤ us f a ∧ us f a ≤ 100000) (hub : 0 ≤ us f b ∧ us f b ≤ 100000) (hu : max (us f a) (us f b) < m.life) (hl : l.length ≤ 800) (hti : 0 ≤ ti ∧ ti ≤ 1000000)
    (m0 : SH w0 none' ((p, prB h.b) :: h.W ⟨false, false, v, t, hd, pk, ti, a, b⟩ m l.length G) w) (hh : PhOk l f h) :
    Ret Tryz.prog 26 [ptr p 0, m.val].toArray w fun r w' => ∃ y : Ph × Int × Int × Int × Int × Dsc, ((m.room ≤ y.2.1 ∧ y.2.1 ≤ m.top) ∧ (ti ≤ y.2.2.2.2.1 ∧ y.2.2.2.2.1 ≤ ti + 306) ∧ (y.2.2.2.2.2.a = a ∧ y.2.2.2.2.2.b = b) ∧ PhOk (l ++ [y.2.2.2.2.2]) (bump (bump f a) b) y.1) ∧ r = .bool true ∧
      SH w0 none' ((p, prB y.1.b) :: y.1.W ⟨false, false, 0, y.2.1, y.2.2.1, y.2.2.2.1, y.2.2.2.2.1, a, b⟩ m (l ++ [y.2.2.2.2.2]).length G) w' := by
  have hpl := pth_len h0 h150 hh6
  refine Ret_ofH (vs := [_, _]) hm none' Tryz.func26 rfl Tryz.ntmps26 rfl m0 ?_
  dsimp only [slotsOf]
  refine GE_seq ?_;refine GE_plain (.ld 0 [] (.st 1 .nil)) rfl ?_;refine GT_box (z := [_, _, _, _, _, _, _, _, _]) rfl rfl rfl rfl rfl rfl rfl (fun _ => GR_nil) (fun b3 => ?_)
  refine GT_st rfl rfl rfl rfl (V_assign rfl rfl) ?_;refine GT_nil ?_;refine GE_seq ?_;refine GE_plain (.st 0 (.ld 1 [] (.st 2 (.st 3 (.st 4 (.ld 5 [] (.ld 6 [] (.st 7 .nil)))))))) rfl ?_;refine GT_st rfl rfl rfl rfl (V_move rfl rfl) ?_;refine GT_call0 rfl rfl rfl rfl rfl rfl rfl rfl rn_74 (fun w hw => C_State (s := ⟨false, false, v, t, hd, pk, ti, a, b⟩) (m := m) (b := h.b) (r := h.r) (n := l.length) (A := h.A) (c := h.c) (BlkAt.of hw) (BlkAt.of hw)) (GR_nil) ?_;refine GT_st rfl rfl rfl rfl (V_move rfl rfl) ?_;refine GT_st rfl rfl rfl rfl (V_extract rfl rfl rfl) ?_;refine GT_st rfl rfl rfl rfl (V_extract rfl rfl rfl) ?_;refine GT_alloc rfl rfl rfl rfl rfl zc_173 (fun _ => GR_nil) (fun b5 => ?_)
  refine GT_store (vs := [_, _, _, _, _, _, _, _, _]) (l' := [_, _, _, _, _, _, _, _, _]) rfl rfl rfl rfl rfl rfl rfl sz_173 rfl rfl (Nat.le_of_ble_eq_true rfl) rfl (GR_nil) ?_;refine GT_st rfl rfl rfl rfl (V_assign rfl rfl) ?_;refine GT_nil ?_;refine GE_seq ?_;refine GE_slots (L' := [(0, _), (3, _), (5, _), (6, _)]) ⟨rfl, rfl, rfl, rfl, trivial⟩ ?_;refine GE_plain (.st 0 (.st 1 (.st 2 (.ld 3 [] (.st 4 (.st 5 (.st 6 (.st 7 (.st 8 .nil))))))))) rfl ?_;refine GT_st rfl rfl rfl rfl (V_loadN (vs := [_, _, _, _, _, _, _, _, _]) rfl rfl ag_58 sz_58 rfl (CellsAt.item rfl)) ?_;refine GT_st rfl rfl rfl rfl (V_field rfl rfl fo_173_3) ?_;refine GT_st rfl rfl rfl rfl (V_load rfl rfl ag_2 (CellAt.item rfl)) ?_;refine GT_call rfl rfl rfl rfl rfl rfl rfl rfl rn_75 (fun w hw => C_Fastest h0 ht) (fun _ _ => GR_nil) (fun yw hyw => ?_)
  obtain ⟨way, Aw, cw, Iw⟩ := yw; dsimp only at hyw ⊢; obtain ⟨hway, hOw⟩ := hyw; have hwl := hway.len
  refine GT_st rfl rfl rfl rfl (V_move rfl rfl) ?_;refine GT_st rfl rfl rfl rfl (V_extract rfl rfl rfl) ?_;refine GT_st rfl rfl rfl rfl (V_extract rfl rfl rfl) ?_;refine GT_st rfl rfl rfl rfl (V_assign rfl rfl) ?_;refine GT_st rfl rfl rfl rfl (V_assign rfl rfl) ?_;refine GT_nil ?_;refine GE_seq ?_;refine GE_slots (L' := [(0, _), (5, _), (6, _), (7, _), (8, _)]) ⟨rfl, rfl, rfl, rfl, rfl, trivial⟩ ?_;refine GE_plain (.st 0 (.st 1 (.ld 2 [] (.st 3 (.st 4 (.st 5 (.ld 6 [] (.ld 7 [] (.st 8 .nil))))))))) rfl ?_;refine GT_st rfl rfl rfl rfl (V_move rfl rfl) ?_;refine GT_st rfl rfl rfl rfl (V_build (vs := [_, _, _]) rfl rfl zc_71 pl_71 sa_71 rfl) ?_;refine GT_callX rfl rfl rfl rfl rfl rfl rfl rfl rn_25 (fun w m9 => C_DoOk (k := 2) (fi := 68) (x := 0) (y := 0) (p := p) (h := h) (G := (b3, blk m.cells 58) :: (b5, blk [.bool false, .bool false, I v, I t, I hd, I pk, I ti, I a, I b] 173) :: (Iw ++ G)) ⟨by decide, by decide⟩ rfl rn_68 (A_load (m := m) (v := v) (t := t) (hd := hd) (p := pk) (ti := ti) (a := a) (b := b) (by omega) (by omega) hu) (by omega) (m9.hs (C := cx Tryz.prog hm 0 0 w0 none' fun _ _ => True) (HS.cons rfl (HS.cons rfl (HS.cons rfl (HS.chunk (HS.cons rfl (HS.cons rfl (HS.chunk HS.last)))))))) hh) (fun _ _ => GR_nil) (fun z1 hz1 => ?_)
  refine GT_st rfl rfl rfl rfl (V_move rfl rfl) ?_;refine GT_st rfl rfl rfl rfl (V_extract rfl rfl rfl) ?_;refine GT_st rfl rfl rfl rfl (V_extract rfl rfl rfl) ?_;refine GT_alloc rfl rfl rfl rfl rfl zc_47 (fun _ => GR_nil) (fun b9 => ?_)
  refine GT_store (vs := [_, _, _, _, _, _, _]) (l' := [_, _, _, _, _, _, _]) rfl rfl rfl rfl rfl rfl rfl sz_47 rfl rfl (Nat.le_of_ble_eq_true rfl) rfl (GR_nil) ?_;refine GT_st rfl rfl rfl rfl (V_assign rfl rfl) ?_;refine GT_nil ?_;refine GE_seq ?_;refine GE_slots (L' := [(0, _), (5, _), (6, _), (7, _), (8, _), (10, _)]) ⟨rfl, rfl, rfl, rfl, rfl, rfl, trivial⟩ ?_;refine GE_plain (.st 0 (.st 1 (.ld 2 [] (.st 3 (.st 4 (.st 5 (.ld 6 [] (.ld 7 [] (.st 8 .nil))))))))) rfl ?_;refine GT_st rfl rfl rfl rfl (V_move rfl rfl) ?_;refine GT_st rfl rfl rfl rfl (V_build (vs := [_, _, _]) rfl rfl zc_71 pl_71 sa_71 rfl) ?_;refine GT_callX rfl rfl rfl rfl rfl rfl rfl rfl rn_25 (fun w m9 => C_DoOk (k := 3) (fi := 69) (x := 0) (y := 0) (p := p) (h := z1) (G := (b3, blk m.cells 58) :: (b5, blk [.bool false, .bool false, I v, I t, I hd, I pk, I ti, I a, I b] 173) :: (Iw ++ G)) ⟨by decide, by decide⟩ rfl rn_69 (A_close (m := m) (v := v) (t := t) (hd := hd) (p := pk) (ti := ti) (a := a) (b := b)) (by omega) (m9.hs (C := cx Tryz.prog hm 0 0 w0 none' fun _ _ => True) (HS.cons rfl (HS.cons rfl (HS.cons rfl (HS.chunk (HS.cons rfl (HS.cons rfl (HS.chunk HS.last)))))))) hz1) (fun _ _ => GR_nil) (fun z2 hz2 => ?_)
  refine GT_st rfl rfl rfl rfl (V_move rfl rfl) ?_;refine GT_st rfl rfl rfl rfl (V_extract rfl rfl rfl) ?_;refine GT_st rfl rfl rfl rfl (V_extract rfl rfl rfl) ?_;refine GT_alloc rfl rfl rfl rfl rfl zc_47 (fun _ => GR_nil) (fun b11 => ?_)
  refine GT_store (vs := [_, _, _, _, _, _, _]) (l' := [_, _, _, _, _, _, _]) rfl rfl rfl rfl rfl rfl rfl sz_47 rfl rfl (Nat.le_of_ble_eq_true rfl) rfl (GR_nil) ?_;refine GT_st rfl rfl rfl rfl (V_assign rfl rfl) ?_;refine GT_nil ?_;refine GE_seq ?_;refine GE_seq ?_;refine GE_slots (L' := [(0, _), (5, _), (6, _), (7, _), (8, _), (10, _), (12, _)]) ⟨rfl, rfl, rfl, rfl, rfl, rfl, rfl, trivial⟩ ?_;refine GE_plain (.st 0 (.st 1 (.st 2 (.st 3 (.st 4 (.st 5 (.st 6 (.st 7 (.st 8 (.st 9 (.st 10 (.st 11 (.st 12 (.st 13 (.st 14 (.st 15 (.st 16 (.st 17 (.st 18 .nil))))))))))))))))))) rfl ?_;refine GT_st rfl rfl rfl rfl (V_move rfl rfl) ?_;refine GT_st rfl rfl rfl rfl (V_isF (V_neq rfl rfl rfl) (fun q => q rfl)) ?_;refine GT_st rfl rfl rfl rfl (V_move rfl rfl) ?_;refine GT_st_g rfl rfl rfl rfl rfl rfl rfl (V_move rfl rfl) ?_;refine GT_st_g rfl rfl rfl rfl rfl rfl rfl (V_isF (V_neq rfl rfl rfl) (fun q => q rfl)) ?_;refine GT_st rfl rfl rfl rfl (V_pick_f rfl rfl rfl) ?_;refine GT_st rfl rfl rfl rfl (V_move rfl rfl) ?_;refine GT_st_g rfl rfl rfl rfl rfl rfl rfl (V_move rfl rfl) ?_;refine GT_st_g rfl rfl rfl rfl rfl rfl rfl (V_isF (V_neq rfl rfl rfl) (fun q => q rfl)) ?_;refine GT_st rfl rfl rfl rfl (V_pick_f rfl rfl rfl) ?_;refine GT_st rfl rfl rfl rfl (V_move rfl rfl) ?_;refine GT_st_g rfl rfl rfl rfl rfl rfl rfl (V_move rfl rfl) ?_;refine GT_st_g rfl rfl rfl rfl rfl rfl rfl (V_isF (V_neq rfl rfl rfl) (fun q => q rfl)) ?_;refine GT_st rfl rfl rfl rfl (V_pick_f rfl rfl rfl) ?_;refine GT_st rfl rfl rfl rfl (V_move rfl rfl) ?_;refine GT_st_g rfl rfl rfl rfl rfl rfl rfl (V_move rfl rfl) ?_;refine GT_st_g rfl rfl rfl rfl rfl rfl rfl (V_len rfl Tryz.underlying38 rfl) ?_;refine GT_st_g rfl rfl rfl rfl rfl rfl rfl (V_isF (V_gtr rfl rfl rfl) (by omega)) ?_
  refine GT_st rfl rfl rfl rfl (V_pick_f rfl rfl rfl) ?_;refine GT_nil ?_;refine GE_cond_f rfl ?_;refine GE_skip ?_;refine GE_seq ?_;refine GE_seq ?_;refine GE_slots (L' := [(0, _), (5, _), (7, _)]) ⟨rfl, rfl, rfl, trivial⟩ ?_;refine GE_plain (.st 0 .nil) rfl ?_;refine GT_st rfl rfl rfl rfl (V_assign rfl rfl) ?_;refine GT_nil ?_;refine GE_block ?_;refine GE_to (GE_loop (ι := Nat × Ph × Int × Int × Int) (fun z => way.length - z.1) (fun z => [(0, ptr p 0), (5, ptr b5 0), (7, .slice Aw way.length cw), (13, I z.1)]) (fun z => (p, prB z.2.1.b) :: z.2.1.W ⟨true, true, z.2.2.1, (rn m (t, 0) (way.take z.1)).1, z.2.2.2.1, z.2.2.2.2, ti + z.1, a, b⟩ m l.length ((b5, blk [.bool false, .bool false, I v, I t, I hd, I pk, I ti, I a, I b] 173) :: (Iw ++ G))) (fun z => z.1 ≤ way.length ∧ PhOk l f z.2.1 ∧ (0 ≤ z.2.2.2.1 ∧ z.2.2.2.1 ≤ z.1) ∧ min m.hold z.2.2.2.1 = (rn m (t, 0) (way.take z.1)).2) ?_ (0, z2, v, 0, t) ?_) ⟨rfl, rfl, rfl, rfl, trivial⟩ (HS.cons rfl (HS.cons (congrArg (fun q => wkB ⟨true, true, v, t, 0, t, q, a, b⟩ m z2.A l.length z2.c z2.r) (show ti = ti + ((0 : Nat) : Int) by omega)) (HS.cons rfl (HS.chunk (HS.cons rfl (HS.chunk HS.last))))))
  · rintro ⟨i, z, vv, hd1, pk1⟩ ⟨hi, hz, hhd, hmin⟩ ih; dsimp only at hi hz hhd hmin ih ⊢; have hsok := rn_ok h0 (way.take i) (s := (t, 0)) ⟨ht, Int.le_refl _, by have := h0.hold; dsimp only; omega⟩
    refine GE_seq ?_;refine GE_seq ?_;refine GE_plain (.st 0 (.st 1 (.st 2 (.st 3 .nil)))) rfl ?_;refine GT_st rfl rfl rfl rfl (V_move rfl rfl) ?_;refine GT_st rfl rfl rfl rfl (V_move rfl rfl) ?_;refine GT_st rfl rfl rfl rfl (V_len rfl Tryz.underlying38 rfl) ?_;refine GT_st rfl rfl rfl rfl (V_lss rfl rfl rfl) ?_;refine GT_nil ?_;refine GE_cond rfl (fun q1 => ?_) (fun q1 => ?_)
    · have hil : i < way.length := (by omega); have hvv := hway.v _ (getD_memT hil); have hhold := hsok.2
      refine GE_skip ?_;refine GE_seq ?_;refine GE_block ?_;refine GE_seq ?_;refine GE_slots (L' := [(0, _), (5, _), (7, _), (13, _)]) ⟨rfl, rfl, rfl, rfl, trivial⟩ ?_;refine GE_plain (.st 0 (.st 1 (.st 2 (.st 3 (.st 4 (.st 5 (.ld 6 [] (.st 7 (.st 8 (.st 9 (.st 10 .nil))))))))))) rfl ?_;refine GT_st rfl rfl rfl rfl (V_move rfl rfl) ?_;refine GT_st rfl rfl rfl rfl (V_move rfl rfl) ?_;refine GT_st rfl rfl rfl rfl (V_move rfl rfl) ?_;refine GT_st rfl rfl rfl rfl (V_index rfl rfl rfl Tryz.underlying38 sz_3 (k := i) rfl hil (hOw.isSome hil)) ?_;refine GT_st rfl rfl rfl rfl (V_load rfl rfl ag_3 (CellAt.own0 (k := i) hOw eN_len hil rfl)) ?_;refine GT_st rfl rfl rfl rfl (V_build (vs := [_, _, _]) rfl rfl zc_71 pl_71 sa_71 rfl) ?_;refine GT_callX rfl rfl rfl rfl rfl rfl rfl rfl rn_25 (fun w m9 => C_DoOk (k := 4) (fi := 70) (x := way.getD i default) (y := 0) (p := p) (h := z) (G := (b5, blk [.bool false, .bool false, I v, I t, I hd, I pk, I ti, I a, I b] 173) :: (Iw ++ G)) ⟨by decide, by decide⟩ rfl rn_70 (A_turn (m := m) (a := a) (b := b) (v := vv) (t := (rn m (t, 0) (way.take i)).1) (hd := hd1) (p := pk1) (ti := ti + i) hvv) (by omega) (m9.hs (C := cx Tryz.prog hm 0 0 w0 none' fun _ _ => True) (HS.cons rfl (HS.cons rfl (HS.cons rfl (HS.chunk (HS.cons rfl (HS.chunk HS.last))))))) hz) (fun _ _ => GR_nil) (fun z3 hz3 => ?_)
      refine GT_st rfl rfl rfl rfl (V_move rfl rfl) ?_;refine GT_st rfl rfl rfl rfl (V_extract rfl rfl rfl) ?_;refine GT_st rfl rfl rfl rfl (V_extract rfl rfl rfl) ?_;refine GT_st rfl rfl rfl rfl (V_assign rfl rfl) ?_;refine GT_nil ?_;refine GE_seq ?_;refine GE_slots (L' := [(0, _), (5, _), (6, _), (7, _), (13, _)]) ⟨rfl, rfl, rfl, rfl, rfl, trivial⟩ ?_;refine GE_plain (.st 0 (.st 1 (.ld 2 [] (.st 3 (.st 4 (.st 5 (.st 6 .nil))))))) rfl ?_;refine GT_st rfl rfl rfl rfl (V_move rfl rfl) ?_;refine GT_st rfl rfl rfl rfl (V_build (vs := [_, _, _]) rfl rfl zc_71 pl_71 sa_71 rfl) ?_;refine GT_callX rfl rfl rfl rfl rfl rfl rfl rfl rn_25 (fun w m9 => C_DoOk (k := 5) (fi := 71) (x := 1) (y := 0) (p := p) (h := z3) (G := (b5, blk [.bool false, .bool false, I v, I t, I hd, I pk, I ti, I a, I b] 173) :: (Iw ++ G)) ⟨by decide, by decide⟩ rfl rn_71 (A_wait (m := m) (a := a) (b := b) (v := way.getD i default) (t := (rn m (t, 0) (way.take i)).1) (hd := hd1) (p := pk1) (ti := ti + i) h0 hsok.1 ⟨by omega, by omega⟩ ⟨by omega, by omega⟩) (by omega) (m9.hs (C := cx Tryz.prog hm 0 0 w0 none' fun _ _ => True) (HS.cons rfl (HS.cons rfl (HS.cons rfl (HS.chunk (HS.cons rfl (HS.chunk HS.last))))))) hz3) (fun _ _ => GR_nil) (fun z4 hz4 => ?_)
      refine GT_st rfl rfl rfl rfl (V_move rfl rfl) ?_;refine GT_st rfl rfl rfl rfl (V_extract rfl rfl rfl) ?_;refine GT_st rfl rfl rfl rfl (V_extract rfl rfl rfl) ?_;refine GT_st rfl rfl rfl rfl (V_assign rfl rfl) ?_;refine GT_nil ?_;refine GE_seq ?_;refine GE_slots (L' := [(0, _), (5, _), (6, _), (7, _), (8, _), (13, _)]) ⟨rfl, rfl, rfl, rfl, rfl, rfl, trivial⟩ ?_;refine GE_plain (.st 0 (.st 1 (.st 2 (.st 3 (.st 4 (.st 5 .nil)))))) rfl ?_;refine GT_st rfl rfl rfl rfl (V_move rfl rfl) ?_;refine GT_st rfl rfl rfl rfl (V_isF (V_neq rfl rfl rfl) (fun q => q rfl)) ?_;refine GT_st rfl rfl rfl rfl (V_move rfl rfl) ?_;refine GT_st_g rfl rfl rfl rfl rfl rfl rfl (V_move rfl rfl) ?_;refine GT_st_g rfl rfl rfl rfl rfl rfl rfl (V_isF (V_neq rfl rfl rfl) (fun q => q rfl)) ?_;refine GT_st rfl rfl rfl rfl (V_pick_f rfl rfl rfl) ?_;refine GT_nil ?_;refine GE_cond_f rfl ?_;refine GE_skip ?_;refine GE_inBlock ?_;refine GE_slots (L' := [(0, _), (5, _), (7, _), (13, _), (83, _), (84, _)]) ⟨rfl, rfl, rfl, rfl, rfl, rfl, trivial⟩ ?_;refine GE_plain (.st 0 (.st 1 (.ld 2 [] .nil))) rfl ?_;refine GT_st rfl rfl rfl rfl (V_move rfl rfl) ?_;refine GT_st rfl rfl rfl rfl (V_add rfl rfl rfl (wrap_i64 (by omega))) ?_;refine GT_ldv rfl rfl rfl rfl rfl (V_assign rfl rfl) (GR_nil) ?_;refine GT_nil ?_
      exact GE_to (ih (i + 1, z4, way.getD i default, if m.melt ≤ tickM m (rn m (t, 0) (way.take i)).1 (way.getD i default) then hd1 + 1 else hd1, max pk1 (tickM m (rn m (t, 0) (way.take i)).1 (way.getD i default))) ⟨by dsimp only; omega, hz4, by dsimp only; split <;> omega, by dsimp only; rw [rn_succ hil]; unfold nx; dsimp only; split <;> omega⟩ (by dsimp only; omega)) ⟨rfl, rfl, rfl, rfl, trivial⟩ (HS.cons rfl (HS.cons (by dsimp only; rw [rn_succ hil, show ti + ((i + 1 : Nat) : Int) = ti + i + 1 by omega]; rfl) (HS.cons rfl (HS.chunk (HS.cons rfl (HS.chunk HS.last))))))
    · obtain rfl : i = way.length := (by omega); rw [List.take_length] at hmin hsok ⊢; have hgo := hway.goal; have hgood : decide (m.hold ≤ hd1) = true := (by rw [decide_eq_true_eq]; have := hgo.1; omega)
      refine GE_exit rfl ?_;refine GE_seq ?_;refine GE_slots (L' := [(0, _), (5, _), (7, _)]) ⟨rfl, rfl, rfl, trivial⟩ ?_;refine GE_plain (.st 0 (.st 1 (.ld 2 [] (.st 3 (.st 4 (.st 5 (.st 6 .nil))))))) rfl ?_;refine GT_st rfl rfl rfl rfl (V_move rfl rfl) ?_;refine GT_st rfl rfl rfl rfl (V_build (vs := [_, _, _]) rfl rfl zc_71 pl_71 sa_71 rfl) ?_;refine GT_callX rfl rfl rfl rfl rfl rfl rfl rfl rn_25 (fun w m9 => C_DoOk (k := 4) (fi := 70) (x := 0) (y := 0) (p := p) (h := z) (G := (b5, blk [.bool false, .bool false, I v, I t, I hd, I pk, I ti, I a, I b] 173) :: (Iw ++ G)) ⟨by decide, by decide⟩ rfl rn_70 (A_turn (m := m) (a := a) (b := b) (v := vv) (t := (rn m (t, 0) way).1) (hd := hd1) (p := pk1) (ti := ti + way.length) ⟨by decide, by decide⟩) (by omega) (m9.hs (C := cx Tryz.prog hm 0 0 w0 none' fun _ _ => True) (HS.cons rfl (HS.cons rfl (HS.cons rfl (HS.chunk (HS.cons rfl (HS.chunk HS.last))))))) hz) (fun _ _ => GR_nil) (fun z5 hz5 => ?_)
      refine GT_st rfl rfl rfl rfl (V_move rfl rfl) ?_;refine GT_st rfl rfl rfl rfl (V_extract rfl rfl rfl) ?_;refine GT_st rfl rfl rfl rfl (V_extract rfl rfl rfl) ?_;refine GT_st rfl rfl rfl rfl (V_assign rfl rfl) ?_;refine GT_nil ?_;refine GE_seq ?_;refine GE_slots (L' := [(0, _), (5, _), (6, _), (7, _)]) ⟨rfl, rfl, rfl, rfl, trivial⟩ ?_;refine GE_plain (.st 0 (.st 1 (.ld 2 [] (.st 3 (.st 4 (.st 5 (.ld 6 [] (.ld 7 [] (.st 8 .nil))))))))) rfl ?_;refine GT_st rfl rfl rfl rfl (V_move rfl rfl) ?_;refine GT_st rfl rfl rfl rfl (V_build (vs := [_, _, _]) rfl rfl zc_71 pl_71 sa_71 rfl) ?_;refine GT_callX rfl rfl rfl rfl rfl rfl rfl rfl rn_25 (fun w m9 => C_DoOk (k := 6) (fi := 72) (x := 0) (y := 0) (p := p) (h := z5) (G := (b5, blk [.bool false, .bool false, I v, I t, I hd, I pk, I ti, I a, I b] 173) :: (Iw ++ G)) ⟨by decide, by decide⟩ rfl rn_72 (A_open (m := m) (a := a) (b := b) (v := 0) (t := (rn m (t, 0) way).1) (hd := hd1) (p := pk1) (ti := ti + way.length) (by decide) hgo.2 (by omega) hab hua hub) (by omega) (m9.hs (C := cx Tryz.prog hm 0 0 w0 none' fun _ _ => True) (HS.cons rfl (HS.cons rfl (HS.cons rfl (HS.chunk (HS.cons rfl (HS.chunk HS.last))))))) hz5) (fun _ _ => GR_nil) (fun z6 hz6 => ?_)
      rw [hgood] at hz6 ⊢
      refine GT_st rfl rfl rfl rfl (V_move rfl rfl) ?_;refine GT_st rfl rfl rfl rfl (V_extract rfl rfl rfl) ?_;refine GT_st rfl rfl rfl rfl (V_extract rfl rfl rfl) ?_;refine GT_alloc rfl rfl rfl rfl rfl zc_47 (fun _ => GR_nil) (fun b14 => ?_)
      refine GT_store (vs := [_, _, _, _, _, _, _]) (l' := [_, _, _, _, _, _, _]) rfl rfl rfl rfl rfl rfl rfl sz_47 rfl rfl (Nat.le_of_ble_eq_true rfl) rfl (GR_nil) ?_;refine GT_st rfl rfl rfl rfl (V_assign rfl rfl) ?_;refine GT_nil ?_;refine GE_seq ?_;refine GE_slots (L' := [(5, _), (6, _), (7, _), (8, _), (14, _)]) ⟨rfl, rfl, rfl, rfl, rfl, trivial⟩ ?_;refine GE_plain (.st 0 (.st 1 (.st 2 (.st 3 (.st 4 (.st 5 (.st 6 (.st 7 (.st 8 (.st 9 (.st 10 (.st 11 (.st 12 (.st 13 (.st 14 (.st 15 (.st 16 (.st 17 (.st 18 (.st 19 (.st 20 .nil))))))))))))))))))))) rfl ?_;refine GT_st rfl rfl rfl rfl (V_move rfl rfl) ?_;refine GT_st rfl rfl rfl rfl (V_isT (V_eql rfl rfl rfl) rfl) ?_;refine GT_st rfl rfl rfl rfl (V_move rfl rfl) ?_;refine GT_st_g rfl rfl rfl rfl rfl rfl rfl (V_move rfl rfl) ?_;refine GT_st_g rfl rfl rfl rfl rfl rfl rfl (V_isT (V_eql rfl rfl rfl) rfl) ?_;refine GT_st rfl rfl rfl rfl (V_pick_t rfl rfl rfl) ?_;refine GT_st rfl rfl rfl rfl (V_move rfl rfl) ?_;refine GT_st_g rfl rfl rfl rfl rfl rfl rfl (V_field rfl rfl fo_47_6) ?_;refine GT_st_g rfl rfl rfl rfl rfl rfl rfl (V_load rfl rfl ag_4 (CellAt.item rfl)) ?_;refine GT_st rfl rfl rfl rfl (V_pick_t rfl rfl rfl) ?_;refine GT_st rfl rfl rfl rfl (V_move rfl rfl) ?_;refine GT_st_g rfl rfl rfl rfl rfl rfl rfl (V_field rfl rfl fo_47_3) ?_;refine GT_st_g rfl rfl rfl rfl rfl rfl rfl (V_load rfl rfl ag_2 (CellAt.item rfl)) ?_;refine GT_st_g rfl rfl rfl rfl rfl rfl rfl (V_field rfl rfl fo_173_6) ?_;refine GT_st_g rfl rfl rfl rfl rfl rfl rfl (V_load rfl rfl ag_2 (CellAt.item rfl)) ?_;refine GT_st_g rfl rfl rfl rfl rfl rfl rfl (V_move rfl rfl) ?_;refine GT_st_g rfl rfl rfl rfl rfl rfl rfl (V_len rfl Tryz.underlying38 rfl) ?_;refine GT_st_g rfl rfl rfl rfl rfl rfl rfl (V_add rfl rfl rfl (wrap_i64 (by omega))) ?_
      refine GT_st_g rfl rfl rfl rfl rfl rfl rfl (V_isT (V_eql rfl rfl rfl) rfl) ?_;refine GT_st rfl rfl rfl rfl (V_pick_t rfl rfl rfl) ?_;refine GT_st rfl rfl rfl rfl (V_assign rfl rfl) ?_;refine GT_nil ?_;refine GE_ret Tryz.func26 rfl (fun w hw => ?_)
      exact ⟨(z6, (rn m (t, 0) way).1, hd1, pk1, ti + way.length, ⟨l.length + 1, a, b, ti + way.length, hd1, pk1, true⟩), ⟨hsok.1, ⟨by dsimp only; omega, by dsimp only; omega⟩, ⟨rfl, rfl⟩, hz6⟩, rfl, hw.hs (C := cx Tryz.prog hm 0 0 w0 none' fun _ _ => True) (HS.cons rfl (HS.cons rfl (HS.cons rfl (HS.chunk HS.last))))⟩
  · exact ⟨Nat.zero_le _, hz2, ⟨Int.le_refl _, Int.le_refl _⟩, by have := h0.hold; show min m.hold 0 = 0; omega⟩
end
end Go.Proofs.YtpbflnfcgcldkaaGreatDoor.Prs
/- Stampers that are mounted in turn, plain. -/
namespace Go.Proofs.YtpbflnfcgcldkaaGreatDoor.Prs
open Go.Sx Go.Proofs Go.RowKit
structure Mnt where
  a : Nat
  b : Nat
  many : Nat
instance : Inhabited Mnt := ⟨⟨0, 0, 0⟩⟩
def eM (x : Mnt) : List Value := [I x.a, I x.b, I x.many]
theorem eM_len (x : Mnt) : (eM x).length = 3 := rfl
theorem eM_one (x : Mnt) : ∀ u ∈ eM x, u.oneCell' = true := fun u h => by
  unfold eM at h; simp only [List.mem_cons, List.not_mem_nil, or_false] at h
  rcases h with rfl | rfl | rfl <;> rfl
def sA (j : Nat) : List Mnt → Nat
  | [] => 0
  | x :: l => (if x.a = j then x.many else 0) + sA j l
def sB (j : Nat) : List Mnt → Nat
  | [] => 0
  | x :: l => (if x.b = j then x.many else 0) + sB j l
def sT : List Mnt → Nat
  | [] => 0
  | x :: l => x.many + sT l
theorem sA_snoc (j : Nat) (x : Mnt) : ∀ l, sA j (l ++ [x]) = sA j l + if x.a = j then x.many else 0
  | [] => by simp [sA]
  | y :: l => by rw [List.cons_append, sA, sA, sA_snoc j x l]; omega
theorem sB_snoc (j : Nat) (x : Mnt) : ∀ l, sB j (l ++ [x]) = sB j l + if x.b = j then x.many else 0
  | [] => by simp [sB]
  | y :: l => by rw [List.cons_append, sB, sB, sB_snoc j x l]; omega
theorem sT_snoc (x : Mnt) : ∀ l, sT (l ++ [x]) = sT l + x.many
  | [] => by simp [sT]
  | y :: l => by rw [List.cons_append, sT, sT, sT_snoc x l]; omega
theorem sA_le (j : Nat) : ∀ (k : Nat) (l : List Mnt), sA j (l.take k) ≤ sA j l
  | 0, l => by simp [sA]
  | k + 1, [] => by simp
  | k + 1, x :: l => by rw [List.take_succ_cons, sA, sA]; have := sA_le j k l; omega
theorem sB_le (j : Nat) : ∀ (k : Nat) (l : List Mnt), sB j (l.take k) ≤ sB j l
  | 0, l => by simp [sB]
  | k + 1, [] => by simp
  | k + 1, x :: l => by rw [List.take_succ_cons, sB, sB]; have := sB_le j k l; omega
theorem sT_le : ∀ (k : Nat) (l : List Mnt), sT (l.take k) ≤ sT l
  | 0, l => by simp [sT]
  | k + 1, [] => by simp
  | k + 1, x :: l => by rw [List.take_succ_cons, sT, sT]; have := sT_le k l; omega
def avL (la L : Nat) (l : List Mnt) : List Int := (List.range la).map fun j => ((L : Int) - sA j l)
def bvL (lb L : Nat) (l : List Mnt) : List Int := (List.range lb).map fun j => ((L : Int) - sB j l)
theorem avL_len (la L : Nat) (l : List Mnt) : (avL la L l).length = la := by simp [avL]
theorem bvL_len (lb L : Nat) (l : List Mnt) : (bvL lb L l).length = lb := by simp [bvL]
theorem avL_at {la L j : Nat} {l : List Mnt} (h : j < la) : (avL la L l).getD j default = (L : Int) - sA j l := by simp [avL, List.getD, h]
theorem bvL_at {lb L j : Nat} {l : List Mnt} (h : j < lb) : (bvL lb L l).getD j default = (L : Int) - sB j l := by simp [bvL, List.getD, h]
theorem avL_nil (la L : Nat) : avL la L [] = List.replicate la (L : Int) := by
  unfold avL
  apply List.ext_getElem
  · simp
  · intro i h1 h2; simp [sA]
theorem bvL_nil (lb L : Nat) : bvL lb L [] = List.replicate lb (L : Int) := by
  unfold bvL
  apply List.ext_getElem
  · simp
  · intro i h1 h2; simp [sB]
theorem avL_set {la L : Nat} {x : Mnt} {l : List Mnt} : (avL la L l).set x.a ((L : Int) - sA x.a l - x.many) = avL la L (l ++ [x]) := by
  apply List.ext_getElem?
  intro j
  rw [List.getElem?_set]
  unfold avL
  simp only [List.length_map, List.length_range, List.getElem?_map, List.getElem?_range]
  by_cases e : x.a = j
  · subst e
    by_cases h : x.a < la
    · simp [h, sA_snoc]; omega
    · simp [h]
  · by_cases h : j < la
    · simp [e, h, sA_snoc]
    · simp [e, h]
theorem bvL_set {lb L : Nat} {x : Mnt} {l : List Mnt} : (bvL lb L l).set x.b ((L : Int) - sB x.b l - x.many) = bvL lb L (l ++ [x]) := by
  apply List.ext_getElem?
  intro j
  rw [List.getElem?_set]
  unfold bvL
  simp only [List.length_map, List.length_range, List.getElem?_map, List.getElem?_range]
  by_cases e : x.b = j
  · subst e
    by_cases h : x.b < lb
    · simp [h, sB_snoc]; omega
    · simp [h]
  · by_cases h : j < lb
    · simp [e, h, sB_snoc]
    · simp [e, h]
theorem avL_zero {la L i k : Nat} {l : List Mnt} : avL la L (l ++ [⟨i, k, 0⟩]) = avL la L l := by unfold avL; congr 1; funext j; rw [sA_snoc]; simp
theorem bvL_zero {lb L i k : Nat} {l : List Mnt} : bvL lb L (l ++ [⟨i, k, 0⟩]) = bvL lb L l := by unfold bvL; congr 1; funext j; rw [sB_snoc]; simp
structure MntR (la lb L n : Nat) (l : List Mnt) : Prop where
  ok : ∀ x ∈ l, x.a < la ∧ x.b < lb ∧ 1 ≤ x.many ∧ x.many ≤ L
  len : l.length ≤ 8
  a : ∀ j, sA j l ≤ L
  b : ∀ j, sB j l ≤ L
  t : sT l = n
structure MI (la lb L n i k dis : Nat) (l : List Mnt) : Prop where
  ok : ∀ x ∈ l, x.a < la ∧ x.b < lb ∧ 1 ≤ x.many ∧ x.many ≤ L
  a : ∀ j, sA j l ≤ L
  b : ∀ j, sB j l ≤ L
  ai : sA i l < L
  aj : ∀ j, i < j → sA j l = 0
  bj : ∀ j, k < j → sB j l = 0
  t : sT l + dis = n
  ta : sT l = L * i + sA i l
  tb : sT l = L * k + sB k l
  len : 0 < dis → l.length ≤ i + k
  l8 : l.length ≤ 8
variable {la lb L n i k dis : Nat} {l : List Mnt}
theorem MI.init (hL : 1 ≤ L) : MI la lb L n 0 0 n [] := by
  refine ⟨fun x hx => (by cases hx), fun j => Nat.zero_le _, fun j => Nat.zero_le _, hL, fun j _ => rfl, fun j _ => rfl, ?_, ?_, ?_, fun _ => Nat.le_refl _, Nat.zero_le _⟩ <;> simp [sT, sA, sB]
theorem MI.done (h : MI la lb L n i k 0 l) : MntR la lb L n l := ⟨h.ok, h.l8, h.a, h.b, by have := h.t; omega⟩
theorem MI.lt (h : MI la lb L n i k dis l) (hd : 0 < dis) (ha : n ≤ L * la) (hb : n ≤ L * lb) : i < la ∧ k < lb := by
  have h1 := h.t; have h2 := h.ta; have h3 := h.tb
  constructor
  · refine Nat.lt_of_not_le fun q => ?_
    have := Nat.mul_le_mul_left L q
    omega
  · refine Nat.lt_of_not_le fun q => ?_
    have := Nat.mul_le_mul_left L q
    omega
theorem MI.step {q : Nat} (h : MI la lb L n i k dis l) (hd : 0 < dis) (ha : n ≤ L * la) (hb : n ≤ L * lb) (h8 : la + lb ≤ 8) (hq : q = min (L - sA i l) (min (L - sB k l) dis)) :
    MI la lb L n (if sA i l + q = L then i + 1 else i) (if sA i l + q = L then k else if sB k l + q = L then k + 1 else k) (dis - q) (if 0 < q then l ++ [⟨i, k, q⟩] else l) ∧
      (0 < dis - q → (sA i l + q = L ∨ sB k l + q = L)) := by
  obtain ⟨hi, hk⟩ := h.lt hd ha hb
  have h1 := h.t; have h2 := h.ta; have h3 := h.tb; have h4 := h.ai; have h5 := h.b k; have h6 := h.len hd
  have hA : ∀ j, sA j (if 0 < q then l ++ [⟨i, k, q⟩] else l) = sA j l + if i = j then q else 0 := fun j => by
    split
    · rw [sA_snoc]
    · rename_i e; obtain rfl : q = 0 := by omega
      simp
  have hB : ∀ j, sB j (if 0 < q then l ++ [⟨i, k, q⟩] else l) = sB j l + if k = j then q else 0 := fun j => by
    split
    · rw [sB_snoc]
    · rename_i e; obtain rfl : q = 0 := by omega
      simp
  have hT : sT (if 0 < q then l ++ [⟨i, k, q⟩] else l) = sT l + q := by
    split
    · rw [sT_snoc]
    · omega
  have hl : (if 0 < q then l ++ [⟨i, k, q⟩] else l).length ≤ l.length + 1 := by split <;> simp
  have m1 : L * (i + 1) = L * i + L := Nat.mul_succ ..
  have m2 : L * (k + 1) = L * k + L := Nat.mul_succ ..
  have hmov : 0 < dis - q → (sA i l + q = L ∨ sB k l + q = L) := by omega
  refine ⟨⟨fun x hx => ?_, fun j => ?_, fun j => ?_, ?_, fun j hj => ?_, fun j hj => ?_, ?_, ?_, ?_, fun hd' => ?_, ?_⟩, hmov⟩
  · split at hx
    · rcases List.mem_append.1 hx with e | e
      · exact h.ok x e
      · rw [List.mem_singleton] at e; subst e; dsimp only; omega
    · exact h.ok x hx
  · rw [hA]; have := h.a j
    split
    · rename_i e; subst e; omega
    · omega
  · rw [hB]; have := h.b j
    split
    · rename_i e; subst e; omega
    · omega
  · rw [hA]
    by_cases e : sA i l + q = L
    · rw [if_pos e, if_neg (by omega), h.aj (i + 1) (by omega)]; omega
    · rw [if_neg e, if_pos rfl]; omega
  · have hj' : i < j := by split at hj <;> omega
    rw [hA, h.aj j hj', if_neg (by omega)]
  · have hj' : k < j := by split at hj; exact hj; split at hj <;> omega
    rw [hB, h.bj j hj', if_neg (by omega)]
  · rw [hT]; omega
  · rw [hT, hA]
    by_cases e : sA i l + q = L
    · rw [if_pos e, if_neg (by omega), h.aj (i + 1) (by omega), m1]; omega
    · rw [if_neg e, if_pos rfl]; omega
  · rw [hT, hB]
    by_cases e : sA i l + q = L
    · rw [if_pos e, if_pos rfl]; omega
    · rw [if_neg e]
      by_cases e2 : sB k l + q = L
      · rw [if_pos e2, if_neg (by omega), h.bj (k + 1) (by omega), m2]; omega
      · rw [if_neg e2, if_pos rfl]; omega
  · have := hmov hd'
    by_cases e : sA i l + q = L
    · rw [if_pos e, if_pos e]; omega
    · rw [if_neg e, if_neg e, if_pos (show sB k l + q = L by omega)]; omega
  · omega
end Go.Proofs.YtpbflnfcgcldkaaGreatDoor.Prs
