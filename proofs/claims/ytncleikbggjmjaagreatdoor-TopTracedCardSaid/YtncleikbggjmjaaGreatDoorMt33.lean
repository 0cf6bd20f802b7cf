/- Texts of this proof, one behind the other: Ub1, Wbl, Wc7. -/
import Derived.Test.YtncleikbggjmjaaGreatDoorMt0
import Derived.Test.YtncleikbggjmjaaGreatDoorMt18
import Derived.Test.YtncleikbggjmjaaGreatDoorMt27
import Derived.Test.YtncleikbggjmjaaGreatDoorMt32
import Derived.Test.YtncleikbggjmjaaGreatDoorMt26
/- Presses: ticks, and starts at a boiler, plain and walked. -/
namespace Go.Proofs.YtncleikbggjmjaaGreatDoor.Prs
open Go.Sx Go.Proofs Go.RowKit
open Side (eN eN_len eN_one getD_memT sh_trans)
structure Mch where
  room : Int
  melt : Int
  cool : Int
  top : Int
  heat : Int
  chill : Int
  drift : Int
  hold : Int
  life : Int
abbrev Mch.cells (m : Mch) : List Value := [I m.room, I m.melt, I m.cool, I m.top, I m.heat, I m.chill, I m.drift, I m.hold, I m.life]
abbrev Mch.val (m : Mch) : Value := .agg #[I m.room, I m.melt, I m.cool, I m.top, I m.heat, I m.chill, I m.drift, I m.hold, I m.life]
structure Mch.Ok (m : Mch) : Prop where
  room : 0 ≤ m.room ∧ m.room ≤ m.cool
  cool : m.cool < m.melt
  melt : m.melt ≤ m.top
  top : m.top ≤ 400
  heat : 1 ≤ m.heat ∧ m.heat ≤ 400
  chill : 1 ≤ m.chill ∧ m.chill ≤ 400
  drift : 0 ≤ m.drift ∧ m.drift ≤ 400
  hold : 1 ≤ m.hold ∧ m.hold ≤ 64
  life : 1 ≤ m.life ∧ m.life ≤ 65536
def tickM (m : Mch) (t v : Int) : Int := if v = 1 then min m.top (t + m.heat) else if v = 2 then max m.room (t - m.chill) else max m.room (t - m.drift)
section
variable {w : World} {m : Mch}
theorem C_out {n lo hi : Int} (h : lo ≤ n ∧ n ≤ hi) : Con0 Tryz.prog 32 [I n, I lo, I hi] w (.bool false) := by
  refine Ret_of (vs := [_, _, _]) hm none' Tryz.func32 rfl Tryz.ntmps32 rfl ?_
  dsimp only [slotsOf]
  refine Zp 1 [] rfl ?_;refine Zv rfl ?_;refine GT_nil ?_;refine Zp 9 [] rfl ?_;refine Zr 2 rfl ?_;refine GT_S rfl (V_lss rfl rfl rfl) ?_;refine Zv rfl ?_;refine GT_split (d := 10) rfl (fun h1 => ?_) (fun h1 => ?_)
  · refine Zr 5 rfl ?_;refine GT_nil ?_;refine GE_ret Tryz.func32 rfl (fun w hw => ⟨?_, hw.nil⟩)
    refine congrArg Value.bool ?_;simp;omega
  · refine Zr 2 rfl ?_;refine GT_S rfl (V_gtr rfl rfl rfl) ?_;refine Zr 2 rfl ?_;refine GT_nil ?_;refine GE_ret Tryz.func32 rfl (fun w hw => ⟨?_, hw.nil⟩)
    refine congrArg Value.bool ?_;simp;omega
set_option maxRecDepth 20000 in
theorem C_Check (h : m.Ok) : Con0 Tryz.prog 31 [m.val] w (I 0) := by
  obtain ⟨h1, h2, h3, h4, h5, h6, h7, h8, h9⟩ := h
  refine Ret_of (vs := [_]) hm none' Tryz.func31 rfl Tryz.ntmps31 rfl ?_
  dsimp only [slotsOf]
  refine Zp 2 [0] rfl ?_;refine Zx [_, _, _, _, _, _, _, _, _] rfl rfl fun b1 => ?_;refine Zv rfl ?_;refine Zz ?_;refine Zp 29 [] rfl ?_;refine Zg rfl fo_61_0 rfl ag_2 rfl ?_;refine GT_S rfl (V_isF (V_lss rfl rfl rfl) (by omega)) ?_;refine Zv rfl ?_;refine Zg rfl fo_61_0 rfl ag_2 rfl ?_;refine Zg rfl fo_61_2 rfl ag_2 rfl ?_;refine GT_S rfl (V_isF (V_gtr rfl rfl rfl) (by omega)) ?_;refine Zr 2 rfl ?_;refine Zg rfl fo_61_2 rfl ag_2 rfl ?_;refine Zg rfl fo_61_1 rfl ag_2 rfl ?_;refine GT_S rfl (V_isF (V_geq rfl rfl rfl) (by omega)) ?_;refine Zr 2 rfl ?_;refine Zg rfl fo_61_1 rfl ag_2 rfl ?_;refine Zg rfl fo_61_3 rfl ag_2 rfl ?_;refine GT_S rfl (V_isF (V_gtr rfl rfl rfl) (by omega)) ?_;refine Zr 2 rfl ?_;refine Zg rfl fo_61_3 rfl ag_2 rfl ?_;refine GT_S rfl (V_isF (V_gtr rfl rfl rfl) (by omega)) ?_;refine Zv rfl ?_;refine GT_nil ?_;refine GE_cond_f rfl ?_;refine GE_skip ?_;refine GE_seq ?_;refine Zq [1] 23 [2, 6, 11, 16, 21] rfl rfl ?_;refine Zg rfl fo_61_4 rfl ag_2 rfl ?_;refine Zc rfl rn_32 (fun w hw => C_out h5) GR_nil ?_;refine Zv rfl ?_;refine Zg rfl fo_61_5 rfl ag_2 rfl ?_;refine Zc rfl rn_32 (fun w hw => C_out h6) GR_nil ?_;refine Zr 2 rfl ?_;refine Zg rfl fo_61_6 rfl ag_2 rfl ?_;refine Zc rfl rn_32 (fun w hw => C_out h7) GR_nil ?_;refine Zr 2 rfl ?_;refine Zg rfl fo_61_7 rfl ag_2 rfl ?_;refine Zc rfl rn_32 (fun w hw => C_out h8) GR_nil ?_;refine Zr 2 rfl ?_;refine Zg rfl fo_61_8 rfl ag_2 rfl ?_;refine Zc rfl rn_32 (fun w hw => C_out h9) GR_nil ?_;refine Zv rfl ?_;refine GT_nil ?_;refine GE_cond_f rfl ?_;refine GE_skip ?_;refine Zq [] 1 [] rfl rfl ?_;refine Zv rfl ?_;refine GT_nil ?_;refine GE_ret Tryz.func31 rfl (fun w hw => ⟨?_, hw.nil⟩)
  rfl
theorem C_tick {t v : Int} (h : m.Ok) (ht : m.room ≤ t ∧ t ≤ m.top) : Con0 Tryz.prog 33 [m.val, I t, I v] w (I (tickM m t v)) := by
  obtain ⟨h1, h2, h3, h4, h5, h6, h7, h8, h9⟩ := h
  refine Ret_of (vs := [_, _, _]) hm none' Tryz.func33 rfl Tryz.ntmps33 rfl ?_
  dsimp only [slotsOf]
  refine Zp 2 [0] rfl ?_;refine Zx [_, _, _, _, _, _, _, _, _] rfl rfl fun b3 => ?_;refine Zv rfl ?_;refine Zz ?_;refine Zp 1 [] rfl ?_;refine Zv rfl ?_;refine GT_nil ?_;refine GE_block ?_;refine Zp 2 [] rfl ?_;refine GT_S rfl (V_eql rfl rfl rfl) ?_;refine Zv rfl ?_;refine GT_nil ?_;refine GE_cond rfl (fun q1 => ?_) (fun q1 => ?_)
  · refine Zq [1, 3] 8 [] rfl rfl ?_;refine Zg rfl fo_61_3 rfl ag_2 rfl ?_;refine Zv rfl ?_;refine Zg rfl fo_61_4 rfl ag_2 rfl ?_;refine Za rfl (by omega) ?_;refine GT_S rfl (V_min rfl rfl rfl) ?_;refine Zv rfl ?_;refine GT_nil ?_;refine GE_ret Tryz.func33 rfl (fun w hw => ⟨?_, hw.nil⟩)
    rw [tickM, if_pos q1]
  · refine Zq [1, 3, 7] 2 [] rfl rfl ?_;refine GT_S rfl (V_eql rfl rfl rfl) ?_;refine Zv rfl ?_;refine GT_nil ?_;refine GE_cond rfl (fun q2 => ?_) (fun q2 => ?_)
    · refine Zp 8 [] rfl ?_;refine Zg rfl fo_61_0 rfl ag_2 rfl ?_;refine Zv rfl ?_;refine Zg rfl fo_61_5 rfl ag_2 rfl ?_;refine Za rfl (by omega) ?_;refine GT_S rfl (V_max rfl rfl rfl) ?_;refine Zv rfl ?_;refine GT_nil ?_;refine GE_ret Tryz.func33 rfl (fun w hw => ⟨?_, hw.nil⟩)
      rw [tickM, if_neg q1, if_pos q2]
    · refine GE_skip ?_;refine GE_inBlock ?_;refine Zp 8 [] rfl ?_;refine Zg rfl fo_61_0 rfl ag_2 rfl ?_;refine Zv rfl ?_;refine Zg rfl fo_61_6 rfl ag_2 rfl ?_;refine Za rfl (by omega) ?_;refine GT_S rfl (V_max rfl rfl rfl) ?_;refine Zv rfl ?_;refine GT_nil ?_;refine GE_ret Tryz.func33 rfl (fun w hw => ⟨?_, hw.nil⟩)
      rw [tickM, if_neg q1, if_neg q2]
theorem C_Tick {t v : Int} (h : m.Ok) (ht : m.room ≤ t ∧ t ≤ m.top) (hv : 0 ≤ v ∧ v ≤ 2) : Con0 Tryz.prog 18 [m.val, I t, I v] w (.tuple #[I (tickM m t v), I 0]) := by
  refine Ret_of (vs := [_, _, _]) hm none' Tryz.func18 rfl Tryz.ntmps18 rfl ?_
  dsimp only [slotsOf]
  refine Zp 3 [0] rfl ?_;refine Zx [_, _, _, _, _, _, _, _, _] rfl rfl fun b3 => ?_;refine Zr 2 rfl ?_;refine Zz ?_;refine Zp 3 [1] rfl ?_;refine ZN [_, _, _, _, _, _, _, _, _] rfl ag_61 sz_61 rfl rfl ?_;refine Zc rfl rn_31 (fun w hw => C_Check h) GR_nil ?_;refine Zv rfl ?_;refine GT_nil ?_;refine Zq [1, 2, 3, 8] 2 [] rfl rfl ?_;refine Zv rfl ?_;refine GT_S rfl (V_isF (V_neq rfl rfl rfl) (fun q => q rfl)) ?_;refine GT_nil ?_;refine GE_cond_f rfl ?_;refine GE_skip ?_;refine GE_seq ?_;refine Zp 10 [5, 8] rfl ?_;refine Zv rfl ?_;refine Zg rfl fo_61_0 rfl ag_2 rfl ?_;refine Zg rfl fo_61_3 rfl ag_2 rfl ?_;refine Zc rfl rn_32 (fun w hw => C_out ht) GR_nil ?_;refine Zr 2 rfl ?_;refine Zc rfl rn_32 (fun w hw => C_out hv) GR_nil ?_;refine Zv rfl ?_;refine GT_nil ?_;refine GE_cond_f rfl ?_;refine GE_skip ?_;refine Zq [1, 2, 3] 6 [3] rfl rfl ?_;refine ZN [_, _, _, _, _, _, _, _, _] rfl ag_61 sz_61 rfl rfl ?_;refine Zr 2 rfl ?_;refine Zc rfl rn_33 (fun w hw => C_tick h ht) GR_nil ?_;refine Zr 2 rfl ?_;refine GT_nil ?_;refine GE_ret Tryz.func18 ⟨_, _, rfl, rfl, rfl⟩ (fun w hw => ⟨?_, hw.nil⟩)
  rfl
end
/-! ### starts -/
structure Blr where
  pr : Nat
  pl : Nat
  st : Int
  rs : Int
structure Blr.Ok (b : Blr) : Prop where
  pr : 1 ≤ b.pr ∧ b.pr ≤ 64
  pl : 1 ≤ b.pl ∧ b.pl ≤ 64
  st : 1 ≤ b.st ∧ b.st ≤ 65536
  rs : 1 ≤ b.rs ∧ b.rs ≤ 65536
section
variable {w w0 : World} {A : Option Addr} {c lp b1 b2 b3 b4 b5 b6 i n : Nat} {b : Blr} {l : List Int}
end
end Go.Proofs.YtncleikbggjmjaaGreatDoor.Prs
/- The examples of layers 7 and 9, walked. -/
namespace Go.Proofs.YtncleikbggjmjaaGreatDoor.Plg
open Go.Sx Go.Proofs Go.RowKit
open Side (eN eN_len eN_one getD_memT sh_trans eP2 eP2_len eP2_one)
open Lis (Plt ePlt ePlt_len PlOk)
open Ply (p6 s6 r6)
def r7 : Nat → Int
  | 5 => 900
  | 6 => 900
  | 7 => 900
  | 11 => 2
  | 12 => 3
  | _ => 0
theorem r7_ok : RcOk r7 := ⟨fun i h1 h3 => by match i, h1, h3 with | 1, _, _ => exact ⟨by decide, by decide, by decide⟩ | 2, _, _ => exact ⟨by decide, by decide, by decide⟩ | 3, _, _ => exact ⟨by decide, by decide, by decide⟩ | n + 4, _, h => omega, by decide, by decide, by decide, by decide, by decide⟩
def d9 : Lis.Dmd := ⟨10, 0, 5, 0, 100⟩
theorem samp9 : Lis.Samp d9 3 0 := by
  have h : ∀ s : Nat, s < 3 → ∀ c : Nat, c < 11 → d9.hold s c = false := by decide
  refine ⟨by decide, by decide, by decide, fun c' h1 h2 => by omega, fun s' c' h1 h2 h3 h4 => ?_⟩
  have h5 : c' ≤ 10 := h4
  have := h s'.toNat (by omega) c'.toNat (by omega)
  rwa [show ((s'.toNat : Nat) : Int) = s' by omega, show ((c'.toNat : Nat) : Int) = c' by omega] at this
section
variable {w w0 : World} {S : Shp} {b : Nat}
theorem C_Needs7B (hb : S.b = b) (h : ShAt w S) (hS : S.Ok) (hq : ∃ q : PH, S.qs = [q] ∧ q.p = p7) (hR : S.R = r7) : Con0 Tryz.prog 38 [ptr b 0, I 0, I 4] w (.tuple #[I 7, I 0]) := by
  obtain ⟨q, hq1, hq2⟩ := hq
  subst hb
  exact C_Needs7 h hS hq1 hq2 (by rw [hR]; rfl) (by rw [hR]; rfl)
theorem C_New7 : Con Tryz.prog 21 [.agg #[I 0, I 0, I 0, I 0, I 0, I 900, I 900, I 900, I 0, I 0, I 0, I 2, I 3]] w (fun _ : Nat => True) (fun b => .tuple #[ptr b 0, I 0]) (fun b => [(b, blk (shC r7 none none none none 0 0 0 0 0 0 0 0) 75)]) := C_New r7_ok
set_option maxRecDepth 20000 in
set_option maxHeartbeats 1000000 in
theorem C_works07 : Con0 Tryz.prog 20 [] w (.bool true) := by
  refine Ret_of (vs := []) hm none' Tryz.func20 rfl Tryz.ntmps20 rfl ?_
  dsimp only [slotsOf]
  refine Zp 1 [] rfl ?_;refine Zv rfl ?_;refine GT_nil ?_;refine Zp 12 [0, 5, 6] rfl ?_;refine GT_buildSlice (z := [_, _, _]) rfl rfl rfl rfl rfl Tryz.underlying43 zc_2 sz_2 (by decide) rfl rfl (fun _ => GR_nil) (fun b7 => ?_);refine GT_S rfl (V_build (vs := [_]) rfl rfl zc_113 pl_113 sa_113 rfl) ?_;refine GT_S rfl (V_build (vs := [_, _]) rfl rfl zc_115 pl_115 sa_115 rfl) ?_;refine GT_S rfl (V_build (vs := [_, _]) rfl rfl zc_115 pl_115 sa_115 rfl) ?_;refine GT_S rfl (V_build (vs := [_, _]) rfl rfl zc_115 pl_115 sa_115 rfl) ?_;refine GT_buildSlice (z := [_, _, _, _, _, _]) rfl rfl rfl rfl rfl Tryz.underlying109 zc_115 sz_115 (by decide) rfl rfl (fun _ => GR_nil) (fun b12 => ?_);refine ZC rfl rn_37 (fun w hw => Ply.C_Read6 (RdL.own' (l := p6) hw eP2_len) (RdL.own' (l := s6) hw eN_len)) (fun _ _ => GR_nil) (fun y hy => ?_);refine Zr 5 rfl ?_;refine GT_nil ?_;refine Zq [1, 2] 8 [2] rfl rfl ?_;refine GT_S rfl (V_build (vs := [_, _, _, _]) rfl rfl zc_22 pl_22 sa_22 rfl) ?_;refine GT_S rfl (V_build (vs := [_, _, _, _, _, _, _, _, _, _, _, _, _]) rfl rfl zc_24 pl_24 sa_24 rfl) ?_;refine ZC rfl rn_21 (fun w hw => C_New7) (fun _ _ => GR_nil) (fun b _ => ?_);refine Zr 5 rfl ?_;refine Zz ?_;refine Zq [1, 2, 3, 4] 22 [] rfl rfl ?_;refine Zv rfl ?_;refine GT_S rfl (V_isF (V_neq rfl rfl rfl) (fun q => q rfl)) ?_;refine Zr 2 rfl ?_;refine GT_S rfl (V_isF (V_neq rfl rfl rfl) (fun q => q rfl)) ?_;refine Zr 3 rfl ?_;refine GT_S rfl (V_eqlNilPtr rfl rfl rfl Tryz.underlying30) ?_;refine Zr 3 rfl ?_;refine Zn rfl Tryz.underlying109 ?_;refine GT_S rfl (V_isF (V_neq rfl rfl rfl) (fun q => q rfl)) ?_;refine Zr 3 rfl ?_;refine GT_S rfl (V_index (k := 1) rfl rfl rfl Tryz.underlying109 sz_115 rfl (by decide) (hy.isSome (k := 1) (by decide))) ?_;refine GT_S rfl (V_loadN (vs := [_, _]) rfl rfl ag_115 sz_115 rfl (CellsAt.ownE hy eP2_len (k := 1) (by decide) rfl)) ?_;refine GT_S rfl (V_build (vs := [_, _]) rfl rfl zc_115 pl_115 sa_115 rfl) ?_;refine GT_S rfl (V_isF (V_neqInts (zs := [-97, 90]) (zs' := [-97, 90]) rfl rfl rfl is_115 rfl rfl) (fun q => q rfl)) ?_;refine Zv rfl ?_;refine GT_nil ?_;refine GE_cond_f rfl ?_;refine GE_skip ?_;refine Zq [3] 7 [2] rfl rfl ?_;refine Zv rfl ?_;refine GT_S rfl (V_build (vs := [_, _, _, _, _, _, _, _, _, _, _, _, _]) rfl rfl zc_70 pl_70 sa_70 rfl) ?_;refine GT_callX rfl rfl rfl rfl rfl rfl rfl rfl rn_22 (fun w m9 => C_Do7 (b := b) (R := r7) (G := y.2.2 ++ []) (m9.hs (C := cx Tryz.prog hm 0 0 _ none' fun _ _ => True) (show HS _ _ ((b, blk (Shp.new b r7).cells 75) :: (y.2.2 ++ [])) from HS.cons rfl (HS.chunk HS.nil))) r7_ok) (fun _ _ => GR_nil) (fun S hS => ?_);refine Zr 4 rfl ?_;refine GT_nil ?_;refine Zq [2, 3] 7 [1] rfl rfl ?_;refine Zv rfl ?_;refine Zc rfl rn_38 (fun w hw => C_Needs7B hS.b (ShAt.of (G := y.2.2 ++ []) hw hS.ok) hS.ok hS.qs hS.R) GR_nil ?_;refine Zr 5 rfl ?_;refine GT_nil ?_;refine Zq [2, 4, 5] 14 [11] rfl rfl ?_;refine Zv rfl ?_;refine GT_S rfl (V_isT (V_eql rfl rfl rfl) rfl) ?_;refine Zr 2 rfl ?_;refine GT_S rfl (V_isT (V_eql rfl rfl rfl) rfl) ?_;refine Zr 3 rfl ?_;refine GT_S rfl (V_isT (V_eql rfl rfl rfl) rfl) ?_;refine Zr 2 rfl ?_;refine Zc rfl rn_39 (fun w hw => Side.C_works05) GR_nil ?_;refine Zr 2 rfl ?_;refine GT_nil ?_;refine GE_ret Tryz.func20 rfl (fun w hw => ⟨?_, hw.nil⟩)
  rfl
def m9 : Prs.Mch := ⟨20, 120, 50, 200, 30, 25, 5, 3, 2⟩
theorem m9_ok : m9.Ok := ⟨by decide, by decide, by decide, by decide, by decide, by decide, by decide, by decide, by decide⟩
theorem C_Sampling9 : Con0 Tryz.prog 19 [I 10, I 0, I 5, I 0, I 100] w (.tuple #[I 3, I 0, I 0]) := by
  have h := Lis.C_listen_Sampling (d := d9) (w := w)
  have hc : d9.chk = 0 := by decide
  rw [show d9.chk = 0 from hc] at h
  refine Ret.mono h fun v w' ⟨y, hy, hv, hm9⟩ => ?_
  obtain ⟨e1, e2⟩ := (hy.1 hc).unique samp9
  subst hv
  exact ⟨by show Value.tuple #[I y.1, I y.2, I 0] = _; rw [e1, e2], hm9⟩
set_option maxRecDepth 20000 in
theorem C_works09 : Con0 Tryz.prog 5 [] w (.bool true) := by
  refine Ret_of (vs := []) hm none' Tryz.func5 rfl Tryz.ntmps5 rfl ?_
  dsimp only [slotsOf]
  refine Zp 1 [] rfl ?_;refine Zv rfl ?_;refine GT_nil ?_;refine Zp 7 [1] rfl ?_;refine GT_S rfl (V_build (vs := [_, _, _, _, _, _, _, _, _]) rfl rfl zc_61 pl_61 sa_61 rfl) ?_;refine Zc rfl rn_18 (fun w hw => Prs.C_Tick (m := m9) (t := 190) (v := 1) m9_ok (by decide) (by decide)) GR_nil ?_;refine Zr 5 rfl ?_;refine GT_nil ?_;refine Zq [1, 2] 8 [0] rfl rfl ?_;refine Zc rfl rn_19 (fun w hw => C_Sampling9) GR_nil ?_;refine Zr 7 rfl ?_;refine GT_nil ?_;refine Zq [1, 2, 3, 4, 5] 22 [19] rfl rfl ?_;refine Zv rfl ?_;refine GT_S rfl (V_isT (V_eql rfl rfl rfl) rfl) ?_;refine Zr 2 rfl ?_;refine GT_S rfl (V_isT (V_eql rfl rfl rfl) rfl) ?_;refine Zr 3 rfl ?_;refine GT_S rfl (V_isT (V_eql rfl rfl rfl) (by decide)) ?_;refine Zr 3 rfl ?_;refine GT_S rfl (V_isT (V_eql rfl rfl rfl) rfl) ?_;refine Zr 3 rfl ?_;refine GT_S rfl (V_isT (V_eql rfl rfl rfl) rfl) ?_;refine Zr 2 rfl ?_;refine Zc rfl rn_20 (fun w hw => C_works07) GR_nil ?_;refine Zr 2 rfl ?_;refine GT_nil ?_;refine GE_ret Tryz.func5 rfl (fun w hw => ⟨?_, hw.nil⟩)
  rfl
end
end Go.Proofs.YtncleikbggjmjaaGreatDoor.Plg
/- TopTraced, walked. -/
namespace Go.Proofs.YtncleikbggjmjaaGreatDoor.Plg
open Go.Sx Go.Proofs Go.RowKit
open Side (eN eN_len eN_one getD_memT sh_trans)
open Lis (Plt ePlt ePlt_len PlOk Dsc eDsc eDsc_len Hrg eHrg eHrg_len eHrg_one Room hearE certL suspL)
section
variable {w w0 : World} {S : Shp} {A A2 : Option Addr} {c c2 b : Nat} {R : Nat → Int} {l : List (Nat → Int)} {pr : List (Int × Int)} {x4 : Int} {sb : Bool}
theorem ps_len (S : Shp) : S.ps.length = S.qs.length := List.length_map ..
theorem C_PlatesL (h : ShAt w S) (hS : S.Ok) : Con Tryz.prog 7 [ptr S.b 0] w (fun y : Option Addr × Nat × Items => Own 7 78 ePlt S.ps (.slice y.1 S.ps.length y.2.1) y.2.2) (fun y => .slice y.1 S.ps.length y.2.1) (fun y => y.2.2) := by
  rw [ps_len]; exact C_Plates h hS
theorem hrs_at {br : Nat → Bool} {side : Int} {d : List Dsc} {k : Nat} (hk : k < d.length) : (hrsL br side d).take (k + 1) = (hrsL br side d).take k ++ [⟨(d.getD k default).ser, brD br side (d.getD k default)⟩] := by
  have hk2 : k < (hrsL br side d).length := by unfold hrsL; rw [List.length_map]; exact hk
  rw [takeS hk2]
  congr 2
  unfold hrsL
  simp [List.getD, hk]
def brS (S : Shp) (f : Int) (q : Nat) : Bool := brL S.st.l q f
theorem susp_len {p : List Plt} {d : List Dsc} {side : Int} {br : Nat → Bool} (hR : Room p d side) : (suspL p d side (hrsL br side d)).length ≤ 70000 := by
  unfold suspL
  rw [if_pos (hrs_ok hR)]
  refine Nat.le_trans (Lis.cptTo_le _ _) ?_
  rw [List.length_map]
  exact Lis.leftS_le hR
theorem mem_takeS {l : List Int} {k : Nat} (hk : k < l.length) (x : Int) : decide (x ∈ l.take (k + 1)) = (decide (x ∈ l.take k) || decide (l.getD k default = x)) := by
  rw [takeS hk, Bool.eq_iff_iff]
  simp only [List.mem_append, List.mem_singleton, Bool.or_eq_true, decide_eq_true_eq]
  constructor
  · rintro (h | h); exact .inl h; exact .inr h.symm
  · rintro (h | h); exact .inl h; exact .inr h.symm
theorem hd_ex {br : Nat → Bool} {side : Int} {d : List Dsc} (h : ¬ (hdL br side d).length = 0) : ∃ i, i < d.length ∧ brD br side (d.getD i default) = true := by
  obtain ⟨x, hx⟩ : ∃ x, x ∈ hdL br side d := by
    cases e : hdL br side d with
    | nil => rw [e] at h; exact absurd rfl h
    | cons x t => exact ⟨x, List.mem_cons_self ..⟩
  obtain ⟨i, h1, h2, _⟩ := Lis.mem_pick.1 hx
  exact ⟨i, h1, h2⟩
theorem hd_len (br : Nat → Bool) (side : Int) (d : List Dsc) : (hdL br side d).length ≤ d.length := by
  unfold hdL Lis.pick
  rw [List.length_map]
  exact Nat.le_trans (List.length_filter_le _ _) (by rw [List.length_range]; exact Nat.le_refl _)
theorem C_numbersT {l l2 : List Int} (h : RdL w 1 eN A l) (h2 : RdL w 1 eN A2 l2) (hl : l.length ≤ 100000) (e : l = l2) : Con0 Tryz.prog 14 [.slice A l.length c, .slice A2 l2.length c2] w (.bool true) := by
  have := C_numbers (c := c) (c2 := c2) h h2 hl (e ▸ hl)
  rwa [decide_eq_true e] at this
set_option maxRecDepth 40000 in
set_option maxHeartbeats 4000000 in
theorem C_TopTraced (hl : RdL w 13 eAct A l) (hpr : RdL w 2 ePr A2 pr) (hb : ∀ x ∈ pr, (0 ≤ x.1 ∧ x.1 ≤ 255) ∧ (0 ≤ x.2 ∧ x.2 ≤ 255)) (hx4 : 0 ≤ x4 ∧ x4 ≤ 255) :
    Con0 Tryz.prog 3 [rV R, .slice A l.length c, .slice A2 pr.length c2, .bool sb, .int .u8 x4] w (.bool true) := by
  refine Ret_of (vs := [_, _, _, _, _]) hm none' Tryz.func3 rfl Tryz.ntmps3 rfl ?_
  dsimp only [slotsOf]
  refine Zp 2 [0] rfl ?_;refine Zx [_, _, _, _, _, _, _, _, _, _, _, _, _] rfl rfl fun b5 => ?_;refine Zv rfl ?_;refine Zz ?_;refine Zp 8 [5] rfl ?_;refine Zv rfl ?_;refine Zn rfl Tryz.underlying25 ?_;refine GT_S rfl (V_gtr rfl rfl rfl) ?_;refine Zv rfl ?_;refine GT_split (d := 37) rfl (fun q1 => ?_) (fun q1 => ?_)
  · refine Zv rfl ?_;refine GT_skip_ld rfl rfl rfl rfl rfl (by decide) rfl rfl rfl GR_nil ?_;refine Zr 2 rfl ?_;refine GT_nil ?_;refine GE_cond_t rfl ?_;refine Zq [] 2 [0] rfl rfl ?_;refine Zc rfl rn_5 (fun w hw => C_works09) GR_nil ?_;refine Zv rfl ?_;refine GT_nil ?_;refine GE_ret Tryz.func3 rfl (fun w hw => ⟨?_, hw.nil⟩)
    rfl
  · refine ZN [_, _, _, _, _, _, _, _, _, _, _, _, _] rfl ag_24 sz_24 rfl rfl ?_;refine ZC rfl rn_4 (fun w hw => C_refRecipe) (fun _ _ => GR_nil) (fun e he => ?_);refine GT_S rfl (V_neq rfl rfl rfl) ?_;refine Zv rfl ?_;refine GT_nil ?_;refine GE_condNot rfl (fun q2 => ?_) (fun q2 => ?_)
    · refine Zq [] 2 [0] rfl rfl ?_;refine Zc rfl rn_5 (fun w hw => C_works09) GR_nil ?_;refine Zv rfl ?_;refine GT_nil ?_;refine GE_ret Tryz.func3 rfl (fun w hw => ⟨?_, hw.nil⟩)
      rfl
    · have hR := he (by omega)
      refine GE_skip ?_;refine GE_cut (ι := Shp × List (Int × Int) × (Option Addr × Nat × Items)) (fun y => [(2, .slice A2 pr.length c2), (3, .bool sb), (4, .int .u8 x4), (11, ptr y.1.b 0), (12, .slice y.2.2.1 y.2.1.length y.2.2.2.1), (13, .bool true)]) (fun y => y.1.W (y.2.2.2.2 ++ [])) (fun y => y.1.Ok ∧ Run l y.1.st y.2.1 ∧ Own 2 42 eSc y.2.1 (.slice y.2.2.1 y.2.1.length y.2.2.2.1) y.2.2.2.2) ?_ (fun hk' => ?_)
      · rintro ⟨S, sc, u⟩ ⟨hS, hrun, hU⟩; dsimp only at hS hrun hU ⊢; have hscl : sc.length = S.fl.length := run_len hrun; have hpo : PlOk S.ps := (by have := run_ok hrun; rwa [show S.st.l.map (·.1) = S.ps from by show (S.qs.map _).map _ = _; rw [List.map_map]; rfl] at this); have hpl := ps_len S; have hn1 := hS.n1
        refine GE_seq ?_;refine Zp 2 [] rfl ?_;refine Zv rfl ?_;refine GT_S rfl (V_notB rfl rfl) ?_;refine GT_nil ?_;refine GE_cond_f rfl ?_;refine GE_skip ?_;refine Zp 3 [1] rfl ?_;refine Zv rfl ?_;refine ZC rfl rn_7 (fun w hw => C_PlatesL (ShAt.of (G := u.2.2 ++ []) hw hS) hS) (fun _ _ => GR_nil) (fun yp hyp => ?_);refine Zv rfl ?_;refine GT_nil ?_;refine Zq [2, 3, 4, 11, 12, 14] 4 [2] rfl rfl ?_;refine Zr 2 rfl ?_;refine ZC rfl rn_8 (fun w hw => C_pressed (hyp.rdH ePlt_len hw) (hpr.sh hw) (by omega) hb) (fun _ _ => GR_nil) (fun yd hyd => ?_);refine Zv rfl ?_;refine Zz ?_;refine Zq [3, 4, 11, 12, 14, 15] 8 [] rfl rfl ?_;refine Zv rfl ?_;refine Zn rfl Tryz.underlying31 ?_;refine GT_S rfl (V_eql rfl rfl rfl) ?_;refine Zv rfl ?_;refine GT_split (d := 60) rfl (fun q3 => ?_) (fun q3 => ?_)
        · refine Zr 4 rfl ?_;refine GT_nil ?_;refine GE_cond_t rfl ?_;refine Zq [] 2 [0] rfl rfl ?_;refine Zc rfl rn_5 (fun w hw => C_works09) GR_nil ?_;refine Zv rfl ?_;refine GT_nil ?_;refine GE_ret Tryz.func3 rfl (fun w hw => ⟨?_, hw.nil⟩)
          rfl
        · refine Zv rfl ?_;refine Zn rfl Tryz.underlying36 ?_;refine GT_S rfl (V_eql rfl rfl rfl) ?_;refine Zv rfl ?_;refine GT_nil ?_;refine GE_cond rfl (fun q4 => ?_) (fun q4 => ?_)
          · refine Zq [] 2 [0] rfl rfl ?_;refine Zc rfl rn_5 (fun w hw => C_works09) GR_nil ?_;refine Zv rfl ?_;refine GT_nil ?_;refine GE_ret Tryz.func3 rfl (fun w hw => ⟨?_, hw.nil⟩)
            rfl
          · have hsc0 : 0 < sc.length := (by omega); have hfi : (x4.toNat % sc.length) < sc.length := Nat.mod_lt _ hsc0; have htm := tmodN hx4.1 sc.length; obtain ⟨fi, hfi0⟩ : ∃ fi, fi = x4.toNat % sc.length := ⟨_, rfl⟩; rw [← hfi0] at hfi htm
            refine GE_skip ?_;refine Zq [3, 4, 11, 12, 14, 15] 6 [] rfl rfl ?_;refine Zv rfl ?_;refine GT_S rfl (V_convII rfl rfl (by rw [Tryz.underlying5]; rfl) Tryz.underlying3 (wrap_i64 (by omega))) ?_;refine Zv rfl ?_;refine Zn rfl Tryz.underlying31 ?_;refine GT_S rfl (V_rem rfl rfl rfl (by omega)) ?_;refine Zv rfl ?_;refine GT_nil ?_;refine Zq [3, 11, 12, 14, 15, 16] 8 [2] rfl rfl ?_;refine Zr 2 rfl ?_;refine ZC rfl rn_9 (fun w hw => C_Bearers (k := fi) (ShAt.of (G := u.2.2 ++ []) (hw.hs (C := cx Tryz.prog hm 0 0 _ none' fun _ _ => True) (HS.cons rfl (HS.chunk (HS.chunk (HS.chunk (HS.chunk (HS.chunk (HS.chunk HS.nil))))))) ) hS) hS htm (by omega)) (fun _ _ => GR_nil) (fun yb hyb => ?_);refine Zr 5 rfl ?_;refine Zz ?_;refine Zq [3, 11, 12, 14, 15, 16, 17, 18] 2 [] rfl rfl ?_;refine Zv rfl ?_;refine GT_S rfl (V_isF (V_neq rfl rfl rfl) (fun q => q rfl)) ?_;refine GT_nil ?_;refine GE_cond_f rfl ?_;refine GE_skip ?_;refine GE_seq ?_;refine Zp 6 [] rfl ?_;refine Zr 2 rfl ?_;refine GT_S rfl (V_index rfl rfl rfl Tryz.underlying31 sz_42 (k := fi) htm hfi (hU.isSome hfi)) ?_;refine GT_S rfl (V_fieldA rfl rfl fo_42_0) ?_;refine ZL rfl ag_3 (CellAt.own0 hU eSc_len hfi rfl) ?_;refine GT_S rfl (V_lss rfl rfl rfl) ?_;refine GT_nil ?_;refine GE_cond rfl (fun q5 => ?_) (fun q5 => ?_)
            · refine Zq [] 2 [0] rfl rfl ?_;refine Zc rfl rn_5 (fun w hw => C_works09) GR_nil ?_;refine Zv rfl ?_;refine GT_nil ?_;refine GE_ret Tryz.func3 rfl (fun w hw => ⟨?_, hw.nil⟩)
              rfl
            · refine GE_skip ?_;refine Zq [3, 11, 12, 14, 15, 16, 17] 1 [] rfl rfl ?_;refine Zv rfl ?_;refine GT_nil ?_;refine GE_cut (ι := Int) (fun sd => [(11, ptr S.b 0), (12, .slice u.1 sc.length u.2.1), (14, .slice yp.1 S.ps.length yp.2.1), (15, .slice yd.1 (dscL S.ps pr).length yd.2.1), (16, I fi), (17, .slice yb.1 (bearN S.qs fi S.qs.length).length yb.2.1), (19, I sd)]) (fun sd => yb.2.2 ++ (yd.2.2 ++ (yp.2.2 ++ S.W (u.2.2 ++ [])))) (fun sd => sd = 0 ∨ sd = 1) ?_ (fun hk2 => ?_)
              · intro sd hsd; have hRoom : Room S.ps (dscL S.ps pr) sd := room_of hpo (by omega) hsd; have hbe : badL sd (bearN S.qs ((fi : Nat) : Int) S.qs.length) (dscL S.ps pr) = hdL (brS S ((fi : Nat) : Int)) sd (dscL S.ps pr) := bad_hd hRoom; have hml := manyD_le (ps := S.ps) (pr := pr); rw [← dscL_len] at hml; obtain ⟨X, hX1, hX2, hX3⟩ := run_bears hrun hfi (by omega); rw [show S.st.l.map (·.1) = S.ps from by show (S.qs.map _).map _ = _; rw [List.map_map]; rfl] at hX3; replace hX3 : Bears S.ps (brS S ((fi : Nat) : Int)) X (sc.getD fi default).2 := hX3; replace hX2 : X < S.ps.length := (by rw [hpl]; exact (show S.st.l.length = S.qs.length from List.length_map ..) ▸ hX2); have hbl := bearN_len S.qs fi S.qs.length
                refine Zp 5 [3] rfl ?_;refine Zr 3 rfl ?_;refine ZC rfl rn_10 (fun w hw => C_badS (hyd.rdH eDsc_len hw) (hyb.rdH eN_len hw) (by omega) (by omega) (dscL_ok (by omega))) (fun _ _ => GR_nil) (fun yh hyh => ?_);refine Zv rfl ?_;refine Zz ?_;refine Zq [11, 12, 14, 15, 16, 19, 20] 3 [] rfl rfl ?_;refine Zv rfl ?_;refine Zn rfl Tryz.underlying43 ?_;refine GT_S rfl (V_eql rfl rfl rfl) ?_;refine GT_nil ?_;refine GE_cond rfl (fun q7 => ?_) (fun q7 => ?_)
                · refine Zq [] 2 [0] rfl rfl ?_;refine Zc rfl rn_5 (fun w hw => C_works09) GR_nil ?_;refine Zv rfl ?_;refine GT_nil ?_;refine GE_ret Tryz.func3 rfl (fun w hw => ⟨?_, hw.nil⟩)
                  rfl
                · rw [hbe] at hyh q7 ⊢; obtain ⟨i0, hi0, hb0⟩ : ∃ i, i < (dscL S.ps pr).length ∧ brD (brS S ((fi : Nat) : Int)) sd ((dscL S.ps pr).getD i default) = true := hd_ex (by omega); have hhl := hd_len (brS S ((fi : Nat) : Int)) sd (dscL S.ps pr)
                  refine GE_skip ?_;refine Zp 1 [] rfl ?_;refine Zv rfl ?_;refine Zz ?_;refine Zp 1 [] rfl ?_;refine Zv rfl ?_;refine GT_nil ?_;refine GE_block ?_;refine GE_to (GE_loop (ι := Nat × (Option Addr × Nat × Items)) (fun z => (dscL S.ps pr).length - z.1) (fun z => [(11, ptr S.b 0), (12, .slice u.1 sc.length u.2.1), (14, .slice yp.1 S.ps.length yp.2.1), (15, .slice yd.1 (dscL S.ps pr).length yd.2.1), (16, I fi), (19, I sd), (20, .slice yh.1 (hdL (brS S ((fi : Nat) : Int)) sd (dscL S.ps pr)).length yh.2.1), (21, .slice z.2.1 ((hrsL (brS S ((fi : Nat) : Int)) sd (dscL S.ps pr)).take z.1).length z.2.2.1), (22, I z.1)]) (fun z => z.2.2.2 ++ (yh.2.2 ++ (yd.2.2 ++ (yp.2.2 ++ S.W (u.2.2 ++ []))))) (fun z => z.1 ≤ (dscL S.ps pr).length ∧ Own 2 50 eHrg ((hrsL (brS S ((fi : Nat) : Int)) sd (dscL S.ps pr)).take z.1) (.slice z.2.1 ((hrsL (brS S ((fi : Nat) : Int)) sd (dscL S.ps pr)).take z.1).length z.2.2.1) z.2.2.2) ?_ (0, (none, 0, [])) ?_) ⟨rfl, rfl, rfl, rfl, rfl, rfl, rfl, rfl, rfl, trivial⟩ (HS.chunk (HS.chunk (HS.chunk (HS.chunk (HS.cons rfl (HS.chunk (HS.chunk (HS.chunk (HS.chunk (HS.chunk (HS.chunk HS.nil)))))))))))
                  · rintro ⟨k, v⟩ ⟨hk, hV⟩ ih; dsimp only at hk hV ih ⊢
                    refine GE_seq ?_;refine Zp 4 [] rfl ?_;refine Zr 2 rfl ?_;refine Zn rfl Tryz.underlying36 ?_;refine GT_S rfl (V_lss rfl rfl rfl) ?_;refine GT_nil ?_;refine GE_cond rfl (fun r1 => ?_) (fun r1 => ?_)
                    · have hkl : k < (dscL S.ps pr).length := (by omega); have hdec : decide (((dscL S.ps pr).getD k default).ser ∈ (hdL (brS S ((fi : Nat) : Int)) sd (dscL S.ps pr))) = brD (brS S ((fi : Nat) : Int)) sd ((dscL S.ps pr).getD k default) := (by rw [Bool.eq_iff_iff, decide_eq_true_iff]; exact mem_hd hRoom hkl); have htl : ((hrsL (brS S ((fi : Nat) : Int)) sd (dscL S.ps pr)).take k).length ≤ 16 := (by rw [List.length_take]; omega)
                      refine GE_skip ?_;refine GE_seq ?_;refine GE_block ?_;refine Zs [11, 12, 14, 15, 16, 19, 20, 21, 22] rfl ?_;refine GE_drawn (.st 0 (.st 1 (.st 2 (.st 3 (.st 4 (.st 5 (.st 6 (.st 7 (.st 8 (.st 9 (.st 10 (.st 11 (.ld 12 [0, 1, 2, 3, 4, 5] (.st 13 (.ld 14 [0] (.ld 15 [] (.ld 16 [] .nil))))))))))))))))) [12, 14, 15, 16] (by decide +kernel) ?_;refine Zr 3 rfl ?_;refine GT_S rfl (V_index rfl rfl rfl Tryz.underlying36 sz_47 (k := k) rfl hkl (hyd.isSome hkl)) ?_;refine GT_S rfl (V_fieldA rfl rfl fo_47_0) ?_;refine ZL rfl ag_2 (CellAt.own0 hyd eDsc_len hkl rfl) ?_;refine Zr 3 rfl ?_;refine GT_S rfl (V_index rfl rfl rfl Tryz.underlying36 sz_47 (k := k) rfl hkl (hyd.isSome hkl)) ?_;refine GT_S rfl (V_fieldA rfl rfl fo_47_0) ?_;refine ZL rfl ag_2 (CellAt.own0 hyd eDsc_len hkl rfl) ?_;refine Zc rfl rn_11 (fun w hw => C_contains (hyh.rdH eN_len hw) (by omega)) (Rv rfl rfl (Rv rfl rfl (Rv rfl rfl (GR_S rfl rfl (V_index rfl rfl rfl Tryz.underlying36 sz_47 (k := k) rfl hkl (hyd.isSome hkl)) (GR_S rfl rfl (V_fieldA rfl rfl fo_47_0) (GR_S rfl rfl (V_load rfl rfl ag_2 (CellAt.own0 hyd eDsc_len hkl rfl)) GR_nil)))))) ?_;refine GT_S rfl (V_build (vs := [_, _]) rfl rfl zc_50 pl_50 sa_50 rfl) ?_;refine GT_buildSlice (z := [_, _]) rfl rfl rfl rfl rfl Tryz.underlying45 zc_50 sz_50 (by decide) rfl rfl (fun _ => Rv rfl rfl GR_nil) (fun b115 => ?_);refine GT_append (enc := eHrg) (l := (hrsL (brS S ((fi : Nat) : Int)) sd (dscL S.ps pr)).take k) (m := [⟨((dscL S.ps pr).getD k default).ser, decide (((dscL S.ps pr).getD k default).ser ∈ (hdL (brS S ((fi : Nat) : Int)) sd (dscL S.ps pr)))⟩]) rfl rfl rfl rfl rfl rfl rfl hV (fun w m => RdL.own' m eHrg_len) Tryz.underlying45 zc_50 sz_50 ⟨rfl, by decide⟩ by_50 ⟨by simp only [List.length_singleton]; omega, by simp only [List.length_singleton]; omega⟩ eHrg_len eHrg_one (fun _ _ _ _ => GR_nil) (fun A3 c3 I3 hO3 => ?_);refine Zw rfl ?_;refine GT_nil ?_;refine GE_inBlock ?_;refine Zs [11, 12, 14, 15, 16, 19, 20, 21, 22] rfl ?_;refine ZP 3 [2] rfl ?_;refine Zv rfl ?_;refine Za rfl (by omega) ?_;refine Zw rfl ?_;refine GT_nil ?_
                      exact GE_to (ih (k + 1, (A3, c3, I3)) ⟨by dsimp only; omega, by dsimp only; rw [hrs_at hkl, ← hdec]; exact hO3⟩ (by dsimp only; omega)) ⟨rfl, rfl, rfl, rfl, rfl, rfl, rfl, lookS rfl (by dsimp only; rw [hrs_at hkl, ← hdec]), rfl, trivial⟩ (HS.chunk (HS.chunk (HS.chunk (HS.chunk (HS.cons rfl (HS.chunk (HS.chunk (HS.chunk (HS.chunk (HS.chunk (HS.chunk HS.nil)))))))))))
                    · obtain rfl : k = (dscL S.ps pr).length := (by omega); have hhl2 : (hrsL (brS S ((fi : Nat) : Int)) sd (dscL S.ps pr)).length = (dscL S.ps pr).length := (by unfold hrsL; rw [List.length_map]); have htk : (hrsL (brS S ((fi : Nat) : Int)) sd (dscL S.ps pr)).take (dscL S.ps pr).length = (hrsL (brS S ((fi : Nat) : Int)) sd (dscL S.ps pr)) := List.take_of_length_le (by omega); rw [htk] at hV ⊢
                      refine GE_exit rfl ?_;refine Zq [11, 12, 14, 15, 16, 19, 20, 21] 10 [4] rfl rfl ?_;refine Zr 4 rfl ?_;refine ZC rfl rn_12 (fun w hw => Lis.C_Suspects (hyp.rdH ePlt_len hw) (ps_wf hpo (by omega)) (hyd.rdH eDsc_len hw) (dscL_wf (by omega)) (hV.rdH eHrg_len hw)) (fun _ _ => GR_nil) (fun ys hys => ?_);refine Zr 5 rfl ?_;refine GT_nil ?_;refine Zq [11, 12, 14, 15, 16, 19, 20, 21, 23, 24] 10 [4] rfl rfl ?_;refine Zr 4 rfl ?_;refine ZC rfl rn_13 (fun w hw => Lis.C_Certain (hyp.rdH ePlt_len hw) (ps_wf hpo (by omega)) (hyd.rdH eDsc_len hw) (dscL_wf (by omega)) (hV.rdH eHrg_len hw)) (fun _ _ => GR_nil) (fun yc hyc => ?_);refine Zr 5 rfl ?_;refine Zz ?_;refine Zq [11, 12, 15, 16, 19, 20, 23, 24, 25, 26] 12 [9] rfl rfl ?_;refine Zv rfl ?_;refine GT_S rfl (V_isF (V_neq rfl rfl rfl) (fun q => q (hrs_ok hRoom))) ?_;refine Zr 2 rfl ?_;refine GT_S rfl (V_isF (V_neq rfl rfl rfl) (fun q => q (hrs_ok hRoom))) ?_;refine Zr 4 rfl ?_;refine Zc rfl rn_14 (fun w hw => C_numbersT (show RdL _ 1 eN _ _ from hyc.rdH Lis.eI_len hw) (hyh.rdH eN_len hw) (by rw [cert_has hRoom hX2 hX3 hi0 hb0]; omega) (cert_has hRoom hX2 hX3 hi0 hb0)) GR_nil ?_;refine GT_S rfl (V_notB rfl rfl) ?_;refine Zv rfl ?_;refine GT_nil ?_;refine GE_cond_f rfl ?_;refine GE_skip ?_;refine Zq [11, 12, 15, 16, 19, 20, 23] 1 [] rfl rfl ?_;refine Zv rfl ?_;refine Zz ?_;refine Zp 1 [] rfl ?_;refine Zv rfl ?_;refine GT_nil ?_;refine GE_block ?_;refine GE_to (GE_loop (ι := Nat × Bool) (fun z => (suspL S.ps (dscL S.ps pr) sd (hrsL (brS S ((fi : Nat) : Int)) sd (dscL S.ps pr))).length - z.1) (fun z => [(11, ptr S.b 0), (12, .slice u.1 sc.length u.2.1), (15, .slice yd.1 (dscL S.ps pr).length yd.2.1), (16, I fi), (19, I sd), (20, .slice yh.1 (hdL (brS S ((fi : Nat) : Int)) sd (dscL S.ps pr)).length yh.2.1), (23, .slice ys.1 (suspL S.ps (dscL S.ps pr) sd (hrsL (brS S ((fi : Nat) : Int)) sd (dscL S.ps pr))).length ys.2.1), (27, .bool z.2), (28, I z.1)]) (fun z => ys.2.2 ++ (yh.2.2 ++ (yd.2.2 ++ S.W (u.2.2 ++ [])))) (fun z => z.1 ≤ (suspL S.ps (dscL S.ps pr) sd (hrsL (brS S ((fi : Nat) : Int)) sd (dscL S.ps pr))).length ∧ z.2 = decide ((X : Int) ∈ (suspL S.ps (dscL S.ps pr) sd (hrsL (brS S ((fi : Nat) : Int)) sd (dscL S.ps pr))).take z.1)) ?_ (0, false) ?_) ⟨rfl, rfl, rfl, rfl, rfl, rfl, rfl, rfl, rfl, trivial⟩ (HS.chunk (HS.chunk (HS.chunk (HS.cons rfl (HS.chunk (HS.chunk (HS.chunk (HS.chunk (HS.chunk (HS.chunk HS.nil))))))))))
                      · rintro ⟨k, fb⟩ ⟨hk, hfb⟩ ih; dsimp only at hk hfb ih ⊢; have hsul := susp_len (br := (brS S ((fi : Nat) : Int))) hRoom
                        refine GE_seq ?_;refine Zp 4 [] rfl ?_;refine Zr 2 rfl ?_;refine Zn rfl Tryz.underlying38 ?_;refine GT_S rfl (V_lss rfl rfl rfl) ?_;refine GT_nil ?_;refine GE_cond rfl (fun r1 => ?_) (fun r1 => ?_)
                        · have hkl : k < (suspL S.ps (dscL S.ps pr) sd (hrsL (brS S ((fi : Nat) : Int)) sd (dscL S.ps pr))).length := (by omega)
                          refine GE_skip ?_;refine GE_seq ?_;refine GE_block ?_;refine GE_cut (ι := Bool) (fun fb2 => [(11, ptr S.b 0), (12, .slice u.1 sc.length u.2.1), (15, .slice yd.1 (dscL S.ps pr).length yd.2.1), (16, I fi), (19, I sd), (20, .slice yh.1 (hdL (brS S ((fi : Nat) : Int)) sd (dscL S.ps pr)).length yh.2.1), (23, .slice ys.1 (suspL S.ps (dscL S.ps pr) sd (hrsL (brS S ((fi : Nat) : Int)) sd (dscL S.ps pr))).length ys.2.1), (27, .bool fb2), (28, I k)]) (fun fb2 => ys.2.2 ++ (yh.2.2 ++ (yd.2.2 ++ S.W (u.2.2 ++ [])))) (fun fb2 => fb2 = decide ((X : Int) ∈ (suspL S.ps (dscL S.ps pr) sd (hrsL (brS S ((fi : Nat) : Int)) sd (dscL S.ps pr))).take (k + 1))) ?_ (fun hk3 => ?_)
                          · intro fb2 hfb2
                            refine GE_seq ?_;refine Zp 5 [] rfl ?_;refine Zr 2 rfl ?_;refine GT_S rfl (V_index rfl rfl rfl Tryz.underlying38 sz_3 (k := k) rfl hkl (hys.isSome hkl)) ?_;refine ZL rfl ag_3 (CellAt.own0 hys Lis.eI_len hkl rfl) ?_;refine GT_S rfl (V_lss rfl rfl rfl) ?_;refine GT_nil ?_;refine GE_cond rfl (fun r3 => ?_) (fun r3 => ?_)
                            · refine GE_exit rfl ?_;refine Zs [11, 12, 15, 16, 19, 20, 23, 27, 28] rfl ?_;refine ZP 3 [2] rfl ?_;refine Zv rfl ?_;refine Za rfl (by omega) ?_;refine Zw rfl ?_;refine GT_nil ?_
                              exact GE_to (ih (k + 1, fb2) ⟨by dsimp only; omega, by dsimp only; exact hfb2⟩ (by dsimp only; omega)) ⟨rfl, rfl, rfl, rfl, rfl, rfl, rfl, rfl, rfl, trivial⟩ (HS.chunk (HS.chunk (HS.chunk (HS.cons rfl (HS.chunk (HS.chunk (HS.chunk (HS.chunk (HS.chunk (HS.chunk HS.nil))))))))))
                            · have hsm : ((suspL S.ps (dscL S.ps pr) sd (hrsL (brS S ((fi : Nat) : Int)) sd (dscL S.ps pr))).getD k default) ∈ (suspL S.ps (dscL S.ps pr) sd (hrsL (brS S ((fi : Nat) : Int)) sd (dscL S.ps pr))) := getD_memT hkl
                              refine GE_skip ?_;refine Zq [11, 12, 15, 16, 19, 20, 23, 27, 28] 1 [] rfl rfl ?_;refine Zv rfl ?_;refine GT_nil ?_;refine GE_block ?_;refine GE_to (GE_loop (ι := Nat) (fun j => (dscL S.ps pr).length - j) (fun j => [(11, ptr S.b 0), (12, .slice u.1 sc.length u.2.1), (15, .slice yd.1 (dscL S.ps pr).length yd.2.1), (16, I fi), (19, I sd), (20, .slice yh.1 (hdL (brS S ((fi : Nat) : Int)) sd (dscL S.ps pr)).length yh.2.1), (23, .slice ys.1 (suspL S.ps (dscL S.ps pr) sd (hrsL (brS S ((fi : Nat) : Int)) sd (dscL S.ps pr))).length ys.2.1), (27, .bool fb2), (28, I k), (29, I j)]) (fun j => ys.2.2 ++ (yh.2.2 ++ (yd.2.2 ++ S.W (u.2.2 ++ [])))) (fun j => j ≤ (dscL S.ps pr).length) ?_ 0 ?_) ⟨rfl, rfl, rfl, rfl, rfl, rfl, rfl, rfl, rfl, rfl, trivial⟩ HS.all
                              · intro j hj ih3
                                refine GE_seq ?_;refine Zp 4 [] rfl ?_;refine Zr 2 rfl ?_;refine Zn rfl Tryz.underlying36 ?_;refine GT_S rfl (V_lss rfl rfl rfl) ?_;refine GT_nil ?_;refine GE_cond rfl (fun r4 => ?_) (fun r4 => ?_)
                                · have hjl : j < (dscL S.ps pr).length := (by omega); have hos := Lis.ofS_in (side := sd) hRoom.dsok hjl; obtain ⟨qn, hqn⟩ : ∃ qn : Nat, Lis.ofS ((dscL S.ps pr).getD j default) sd = qn := ⟨(Lis.ofS ((dscL S.ps pr).getD j default) sd).toNat, by omega⟩; have hll : (lineL S ((qn : Nat) : Int)).length ≤ 256 := (by rw [List.length_reverse]; exact Nat.le_trans (upF_len _ _ _) hn1)
                                  refine GE_skip ?_;refine GE_seq ?_;refine GE_block ?_;refine GE_seq ?_;refine Zq [11, 12, 15, 16, 19, 20, 23, 27, 28, 29] 8 [6] rfl rfl ?_;refine Zr 3 rfl ?_;refine GT_S rfl (V_index rfl rfl rfl Tryz.underlying36 sz_47 (k := j) rfl hjl (hyd.isSome hjl)) ?_;refine GT_S rfl (V_fieldA rfl rfl fo_47_0) ?_;refine ZL rfl ag_2 (CellAt.own0 hyd eDsc_len hjl rfl) ?_;refine Zc rfl rn_11 (fun w hw => C_contains (hyh.rdH eN_len hw) (by omega)) GR_nil ?_;refine GT_S rfl (V_not rfl rfl) ?_;refine GT_nil ?_;refine GE_condNot rfl (fun r5 => ?_) (fun r5 => ?_)
                                  · refine GE_exit rfl ?_;refine Zs [11, 12, 15, 16, 19, 20, 23, 27, 28, 29] rfl ?_;refine ZP 3 [2] rfl ?_;refine Zv rfl ?_;refine Za rfl (by omega) ?_;refine Zw rfl ?_;refine GT_nil ?_
                                    exact GE_to (ih3 (j + 1) (by omega) (by omega)) ⟨rfl, rfl, rfl, rfl, rfl, rfl, rfl, rfl, rfl, rfl, trivial⟩ (HS.chunk (HS.chunk (HS.chunk (HS.cons rfl (HS.chunk (HS.chunk (HS.chunk (HS.chunk (HS.chunk (HS.chunk HS.nil))))))))))
                                  · have hbj : brD (brS S ((fi : Nat) : Int)) sd ((dscL S.ps pr).getD j default) = true := (mem_hd hRoom hjl).1 (by simpa using r5); have hli : ((suspL S.ps (dscL S.ps pr) sd (hrsL (brS S ((fi : Nat) : Int)) sd (dscL S.ps pr))).getD k default) ∈ (lineL S ((qn : Nat) : Int)) := (List.mem_reverse.2 (by have := susp_line hRoom hsm (by omega) hjl hbj; rw [hqn] at this; rw [← hpl]; exact this))
                                    refine GE_skip ?_;refine Zq [11, 12, 15, 16, 19, 20, 23, 27, 28, 29] 13 [6, 7] rfl rfl ?_;refine Zr 3 rfl ?_;refine GT_S rfl (V_index rfl rfl rfl Tryz.underlying36 sz_47 (k := j) rfl hjl (hyd.isSome hjl)) ?_;refine GT_S rfl (V_loadN (vs := [_, _, _, _, _, _, _]) rfl rfl ag_47 sz_47 rfl (CellsAt.ownE hyd eDsc_len hjl rfl)) ?_;refine Zv rfl ?_;refine Zc rfl rn_16 (fun w hw => C_Of (dscL_ok (by omega) _ (getD_memT hjl))) GR_nil ?_;refine ZC rfl rn_15 (fun w hw => C_Line (k := qn) (ShAt.of (G := u.2.2 ++ []) (hw.hs (C := cx Tryz.prog hm 0 0 _ none' fun _ _ => True) (HS.cons rfl (HS.chunk (HS.chunk (HS.chunk (HS.chunk (HS.chunk (HS.chunk HS.nil)))))))) hS) hpo hn1 (by omega) (by rw [ofD_ofS]; exact hqn)) (fun _ _ => GR_nil) (fun yl hyl => ?_);refine Zr 5 rfl ?_;refine GT_nil ?_;refine Zq [11, 12, 15, 16, 19, 20, 23, 27, 28, 29, 30, 31] 1 [] rfl rfl ?_;refine Zv rfl ?_;refine Zz ?_;refine Zp 1 [] rfl ?_;refine Zv rfl ?_;refine GT_nil ?_;refine GE_block ?_;refine GE_to (GE_loop (ι := Nat × Bool) (fun z => (lineL S ((qn : Nat) : Int)).length - z.1) (fun z => [(11, ptr S.b 0), (12, .slice u.1 sc.length u.2.1), (15, .slice yd.1 (dscL S.ps pr).length yd.2.1), (16, I fi), (19, I sd), (20, .slice yh.1 (hdL (brS S ((fi : Nat) : Int)) sd (dscL S.ps pr)).length yh.2.1), (23, .slice ys.1 (suspL S.ps (dscL S.ps pr) sd (hrsL (brS S ((fi : Nat) : Int)) sd (dscL S.ps pr))).length ys.2.1), (27, .bool fb2), (28, I k), (29, I j), (30, .slice yl.1 (lineL S ((qn : Nat) : Int)).length yl.2.1), (31, I 0), (32, .bool z.2), (33, I z.1)]) (fun z => yl.2.2 ++ (ys.2.2 ++ (yh.2.2 ++ (yd.2.2 ++ S.W (u.2.2 ++ []))))) (fun z => z.1 ≤ (lineL S ((qn : Nat) : Int)).length ∧ z.2 = decide (((suspL S.ps (dscL S.ps pr) sd (hrsL (brS S ((fi : Nat) : Int)) sd (dscL S.ps pr))).getD k default) ∈ (lineL S ((qn : Nat) : Int)).take z.1)) ?_ (0, false) ?_) ⟨rfl, rfl, rfl, rfl, rfl, rfl, rfl, rfl, rfl, rfl, rfl, rfl, rfl, rfl, trivial⟩ HS.all
                                    · rintro ⟨t, ib⟩ ⟨ht, hib⟩ ih4; dsimp only at ht hib ih4 ⊢
                                      refine GE_seq ?_;refine Zp 4 [] rfl ?_;refine Zr 2 rfl ?_;refine Zn rfl Tryz.underlying38 ?_;refine GT_S rfl (V_lss rfl rfl rfl) ?_;refine GT_nil ?_;refine GE_cond rfl (fun r6 => ?_) (fun r6 => ?_)
                                      · have htl : t < (lineL S ((qn : Nat) : Int)).length := (by omega)
                                        refine GE_skip ?_;refine GE_seq ?_;refine GE_block ?_;refine Zs [11, 12, 15, 16, 19, 20, 23, 27, 28, 29, 30, 31, 32, 33] rfl ?_;refine GE_drawn (.st 0 (.st 1 (.st 2 (.st 3 (.st 4 (.st 5 (.st 6 (.st 7 (.st 8 (.st 9 (.st 10 (.st 11 (.ld 12 [] .nil))))))))))))) [12] (by decide +kernel) ?_;refine Zr 2 rfl ?_;refine GT_splitB (d := 201) rfl (fun r7 => ?_) (fun r7 => ?_)
                                        · refine Zr 10 rfl ?_;refine Zw rfl ?_;refine GT_nil ?_;refine GE_inBlock ?_;refine ZP 3 [2] rfl ?_;refine Zv rfl ?_;refine Za rfl (by omega) ?_;refine Zw rfl ?_;refine GT_nil ?_
                                          first
                                            | exact GE_to (ih4 (t + 1, true) ⟨by dsimp only; omega, by dsimp only; rw [mem_takeS htl, ← hib, r7]; rfl⟩ (by dsimp only; omega)) ⟨rfl, rfl, rfl, rfl, rfl, rfl, rfl, rfl, rfl, rfl, rfl, rfl, rfl, rfl, trivial⟩ HS.all
                                            | exact GE_to (ih4 (t + 1, _) ⟨by dsimp only; omega, by dsimp only; rw [mem_takeS htl, ← hib, r7, Bool.false_or]; try rfl⟩ (by dsimp only; omega)) ⟨rfl, rfl, rfl, rfl, rfl, rfl, rfl, rfl, rfl, rfl, rfl, rfl, rfl, rfl, trivial⟩ HS.all
                                        · refine Zr 2 rfl ?_;refine GT_S rfl (V_index rfl rfl rfl Tryz.underlying38 sz_3 (k := t) rfl htl (hyl.isSome htl)) ?_;refine ZL rfl ag_3 (CellAt.own0 hyl eN_len htl rfl) ?_;refine Zr 2 rfl ?_;refine GT_S rfl (V_index rfl rfl rfl Tryz.underlying38 sz_3 (k := k) rfl hkl (hys.isSome hkl)) ?_;refine ZL rfl ag_3 (CellAt.own0 hys Lis.eI_len hkl rfl) ?_;refine GT_S rfl (V_eql rfl rfl rfl) ?_;refine Zv rfl ?_;refine Zw rfl ?_;refine GT_nil ?_;refine GE_inBlock ?_;refine ZP 3 [2] rfl ?_;refine Zv rfl ?_;refine Za rfl (by omega) ?_;refine Zw rfl ?_;refine GT_nil ?_
                                          first
                                            | exact GE_to (ih4 (t + 1, true) ⟨by dsimp only; omega, by dsimp only; rw [mem_takeS htl, ← hib, r7]; rfl⟩ (by dsimp only; omega)) ⟨rfl, rfl, rfl, rfl, rfl, rfl, rfl, rfl, rfl, rfl, rfl, rfl, rfl, rfl, trivial⟩ HS.all
                                            | exact GE_to (ih4 (t + 1, _) ⟨by dsimp only; omega, by dsimp only; rw [mem_takeS htl, ← hib, r7, Bool.false_or]; try rfl⟩ (by dsimp only; omega)) ⟨rfl, rfl, rfl, rfl, rfl, rfl, rfl, rfl, rfl, rfl, rfl, rfl, rfl, rfl, trivial⟩ HS.all
                                      · obtain rfl : t = (lineL S ((qn : Nat) : Int)).length := (by omega); obtain rfl : ib = true := (by rw [hib, List.take_length]; exact decide_eq_true hli)
                                        refine GE_exit rfl ?_;refine Zq [11, 12, 15, 16, 19, 20, 23, 27, 28, 29, 31, 32] 6 [] rfl rfl ?_;refine Zv rfl ?_;refine GT_S rfl (V_isF (V_neq rfl rfl rfl) (fun q => q rfl)) ?_;refine Zr 2 rfl ?_;refine GT_S rfl (V_notB rfl rfl) ?_;refine Zv rfl ?_;refine GT_nil ?_;refine GE_cond_f rfl ?_;refine GE_skip ?_;refine GE_inBlock ?_;refine Zs [11, 12, 15, 16, 19, 20, 23, 27, 28, 29, 215, 216] rfl ?_;refine ZP 3 [2] rfl ?_;refine Zv rfl ?_;refine Za rfl (by omega) ?_;refine Zw rfl ?_;refine GT_nil ?_
                                        exact GE_to (ih3 (j + 1) (by omega) (by omega)) ⟨rfl, rfl, rfl, rfl, rfl, rfl, rfl, rfl, rfl, rfl, trivial⟩ (HS.chunk (HS.chunk (HS.chunk (HS.cons rfl (HS.chunk (HS.chunk (HS.chunk (HS.chunk (HS.chunk (HS.chunk HS.nil))))))))))
                                    · exact ⟨Nat.zero_le _, rfl⟩
                                · refine GE_exit rfl ?_;refine GE_inBlock ?_;refine Zs [11, 12, 15, 16, 19, 20, 23, 27, 28] rfl ?_;refine ZP 3 [2] rfl ?_;refine Zv rfl ?_;refine Za rfl (by omega) ?_;refine Zw rfl ?_;refine GT_nil ?_
                                  exact GE_to (ih (k + 1, fb2) ⟨by dsimp only; omega, by dsimp only; exact hfb2⟩ (by dsimp only; omega)) ⟨rfl, rfl, rfl, rfl, rfl, rfl, rfl, rfl, rfl, trivial⟩ (HS.chunk (HS.chunk (HS.chunk (HS.cons rfl (HS.chunk (HS.chunk (HS.chunk (HS.chunk (HS.chunk (HS.chunk HS.nil))))))))))
                              · exact Nat.zero_le _
                          · refine Zs [11, 12, 15, 16, 19, 20, 23, 27, 28] rfl ?_;refine GE_drawn (.st 0 (.st 1 (.st 2 (.st 3 (.st 4 (.st 5 (.st 6 (.st 7 (.st 8 (.st 9 (.st 10 (.st 11 (.st 12 (.ld 13 [] .nil)))))))))))))) [13] (by decide +kernel) ?_;refine Zr 2 rfl ?_;refine GT_splitB (d := 152) rfl (fun r2 => ?_) (fun r2 => ?_)
                            · refine Zr 11 rfl ?_;refine Zw rfl ?_;refine GT_nil ?_
                              first | exact GE_to (hk3 true (by rw [mem_takeS hkl, ← hfb, r2]; rfl)) ⟨rfl, rfl, rfl, rfl, rfl, rfl, rfl, rfl, rfl, trivial⟩ HS.all | exact GE_to (hk3 _ (by rw [mem_takeS hkl, ← hfb, r2, Bool.false_or, hX1])) ⟨rfl, rfl, rfl, rfl, rfl, rfl, rfl, rfl, rfl, trivial⟩ HS.all
                            · refine Zr 2 rfl ?_;refine GT_S rfl (V_index rfl rfl rfl Tryz.underlying38 sz_3 (k := k) rfl hkl (hys.isSome hkl)) ?_;refine ZL rfl ag_3 (CellAt.own0 hys Lis.eI_len hkl rfl) ?_;refine Zr 2 rfl ?_;refine GT_S rfl (V_index rfl rfl rfl Tryz.underlying31 sz_42 (k := fi) rfl hfi (hU.isSome hfi)) ?_;refine GT_S rfl (V_fieldA rfl rfl fo_42_0) ?_;refine ZL rfl ag_3 (CellAt.own0 hU eSc_len hfi rfl) ?_;refine GT_S rfl (V_eql rfl rfl rfl) ?_;refine Zv rfl ?_;refine Zw rfl ?_;refine GT_nil ?_
                              first | exact GE_to (hk3 true (by rw [mem_takeS hkl, ← hfb, r2]; rfl)) ⟨rfl, rfl, rfl, rfl, rfl, rfl, rfl, rfl, rfl, trivial⟩ HS.all | exact GE_to (hk3 _ (by rw [mem_takeS hkl, ← hfb, r2, Bool.false_or, hX1])) ⟨rfl, rfl, rfl, rfl, rfl, rfl, rfl, rfl, rfl, trivial⟩ HS.all
                        · obtain rfl : k = (suspL S.ps (dscL S.ps pr) sd (hrsL (brS S ((fi : Nat) : Int)) sd (dscL S.ps pr))).length := (by omega); obtain rfl : fb = true := (by rw [hfb, List.take_length]; exact decide_eq_true (susp_has hRoom hX2 hX3 hi0 hb0))
                          refine GE_exit rfl ?_;refine Zq [27] 5 [2] rfl rfl ?_;refine Zr 2 rfl ?_;refine Zc rfl rn_5 (fun w hw => C_works09) GR_nil ?_;refine Zr 2 rfl ?_;refine GT_nil ?_;refine GE_ret Tryz.func3 rfl (fun w hw => ⟨?_, hw.nil⟩)
                          rfl
                      · exact ⟨Nat.zero_le _, rfl⟩
                  · exact ⟨Nat.zero_le _, Own.nil⟩
              · refine Zp 1 [] rfl ?_;refine Zv rfl ?_;refine GT_nil ?_;refine GE_condB rfl (fun q6 => ?_) (fun q6 => ?_)
                · refine ZP 1 [] rfl ?_;refine Zv rfl ?_;refine GT_nil ?_
                  first | exact GE_to (hk2 1 (.inr rfl)) ⟨rfl, rfl, rfl, rfl, lookI rfl htm, rfl, rfl, trivial⟩ HS.all | exact GE_to (hk2 0 (.inl rfl)) ⟨rfl, rfl, rfl, rfl, lookI rfl htm, rfl, rfl, trivial⟩ HS.all
                · refine GE_skip ?_
                  first | exact GE_to (hk2 1 (.inr rfl)) ⟨rfl, rfl, rfl, rfl, lookI rfl htm, rfl, rfl, trivial⟩ HS.all | exact GE_to (hk2 0 (.inl rfl)) ⟨rfl, rfl, rfl, rfl, lookI rfl htm, rfl, rfl, trivial⟩ HS.all
      · refine Zs [1, 2, 3, 4, 5] rfl ?_;refine ZP 10 [2] rfl ?_;refine ZN [_, _, _, _, _, _, _, _, _, _, _, _, _] rfl ag_24 sz_24 rfl rfl ?_;refine Zv rfl ?_;refine ZC rfl rn_6 (fun w hw => C_scars hR (hl.sh hw) (by omega)) (fun _ _ => GR_nil) (fun y hy => ?_);refine Zr 7 rfl ?_;refine GT_nil ?_
        exact GE_to (hk' y hy) ⟨rfl, rfl, rfl, rfl, rfl, rfl, trivial⟩ (HS.cons rfl (HS.chunk (HS.chunk (HS.chunk (HS.chunk (HS.chunk (HS.chunk HS.nil)))))))
end
end Go.Proofs.YtncleikbggjmjaaGreatDoor.Plg
