/- Texts of this proof, one behind the other: Tp1, La2, La7, La8, La9, LaA, LaB, LaC, LaD, LaN, LaQ, LaZ, Th2, Ua3, Ua4, Ua5, Uc2, Uc3, Uc4, Uc5, Uc1, Uc6, Uc7. -/
import Derived.Test.YtncleikbggjmjaaGreatDoorMt0
import Derived.Test.YtncleikbggjmjaaGreatDoorMt31
import Derived.Test.YtncleikbggjmjaaGreatDoorMt29
import Derived.Test.YtncleikbggjmjaaGreatDoorMt10
import Derived.Test.YtncleikbggjmjaaGreatDoorMt16
import Derived.Test.YtncleikbggjmjaaGreatDoorMt18
import Derived.Test.YtncleikbggjmjaaGreatDoorMt13
/- A groove without a signal on a blank: its outermost cut, in plain Lean. -/
namespace Go.Proofs.YtncleikbggjmjaaGreatDoor.Lathe
open Go.Sx
def silL (h : Int) (n : Nat) : List Pt := List.replicate n ⟨-h, h⟩
def tpB (q O C d : Int) : Blank := ⟨q, O, C, d, 0, 65536⟩
section
variable {q O C d h : Int} {n : Nat}
structure TpIn (q O C d h : Int) (n : Nat) : Prop where
  q1 : 1 ≤ q ∧ q ≤ 16
  h1 : 1 ≤ h ∧ h ≤ 1000
  d1 : 0 ≤ d ∧ d ≤ 1000
  n1 : 1 ≤ n ∧ n ≤ 60
  o1 : 1 ≤ O ∧ O ≤ 65536
  c1 : 0 ≤ C ∧ C ≤ O
theorem TpIn.ok (I : TpIn q O C d h n) : (tpB q O C d).ok = true := by
  obtain ⟨h1, h2, h3, h4, h5, h6⟩ := I
  rw [Blank.ok_iff]; unfold tpB; dsimp only; omega
theorem TpIn.pts (I : TpIn q O C d h n) : (silL h n).all ptOk = true := by
  rw [List.all_eq_true]
  intro x hx
  obtain ⟨_, rfl⟩ := List.mem_replicate.1 hx
  have := I.h1
  unfold ptOk
  rw [Bool.and_eq_true, betw_iff, betw_iff]; dsimp only; omega
theorem sil_len (h : Int) (n : Nat) : (silL h n).length = n := List.length_replicate
theorem TpIn.both (I : TpIn q O C d h n) : both (tpB q O C d) (silL h n) = 0 := both_zero.2 ⟨I.ok, by rw [sil_len]; have := I.n1; omega, I.pts⟩
end
end Go.Proofs.YtncleikbggjmjaaGreatDoor.Lathe
/- the reference's greatest radii, walked -/
namespace Go.Proofs.YtncleikbggjmjaaGreatDoor.Lathe
open Go.Sx Go.Proofs
end Go.Proofs.YtncleikbggjmjaaGreatDoor.Lathe
/- The outermost cut of the lathe and of the reference, walked. -/
namespace Go.Proofs.YtncleikbggjmjaaGreatDoor.Lathe
open Go.Sx Go.Proofs
theorem SideAt.of {w0 w : World} {M : Nat → Prop} {H : Items} {bs c : Nat} {b : Blank} {A : Option Addr} {l : List Pt} (m : SH w0 M H w) [h : HFind bs H (blk (sideCells b A l c) 230)] : SideAt w bs b A l c := (m.item _ h.mem).2
theorem C_lathe_newSide_err {b : Blank} {A : Option Addr} {l : List Pt} {c : Nat} {w : World} (hp : RdL w 2 ePt A l) (hne : both b l ≠ 0) : Con0 Tryz.prog 85 [b.val, .slice A l.length c] w (.tuple #[.pointer none, I (both b l)]) := by
  refine Ret_of (vs := [_, _]) hm none' Tryz.func85 rfl Tryz.ntmps85 rfl ?_
  dsimp only [slotsOf]
  refine Zp 3 [0] rfl ?_;refine Zx [_, _, _, _, _, _] rfl rfl fun b2 => ?_;refine Zr 2 rfl ?_;refine Zz ?_;refine Zp 3 [1] rfl ?_;refine ZN [_, _, _, _, _, _] rfl ag_150 sz_150 rfl rfl ?_;refine Zc rfl rn_103 (fun w hw => C_lathe_Check (b := b)) GR_nil ?_;refine Zv rfl ?_;refine GT_nil ?_;refine Zq [1, 2, 6] 2 [] rfl rfl ?_;refine Zv rfl ?_;refine GT_S rfl (V_neq rfl rfl rfl) ?_;refine GT_nil ?_;refine GE_condNot rfl (fun h1 => ?_) (fun h1 => ?_)
  · have hb := Blank.check_ne.1 h1; have he := both_bad (l := l) hb; have he2 := Blank.check_of hb
    refine Zq [6] 3 [] rfl rfl ?_;refine Zr 3 rfl ?_;refine GT_nil ?_;refine GE_ret Tryz.func85 ⟨_, _, rfl, rfl, rfl⟩ (fun w hw => ⟨?_, hw.nil⟩)
    first | rw [he, he2] | rw [he]
  · have hb : b.ok = true := (by cases hk : b.ok with | true => rfl | false => exact absurd (Blank.check_of hk) (by omega)); have he := both_ok (l := l) hb; rw [he] at hne
    refine GE_skip ?_;refine GE_seq ?_;refine Zp 3 [1] rfl ?_;refine Zv rfl ?_;refine Zc rfl rn_81 (fun w hw => C_groove_CheckPoints (hp.sh hw)) GR_nil ?_;refine Zv rfl ?_;refine GT_nil ?_;refine Zq [1, 2, 7] 2 [] rfl rfl ?_;refine Zv rfl ?_;refine GT_S rfl (V_neq rfl rfl rfl) ?_;refine GT_nil ?_;refine GE_condNot rfl (fun h2 => ?_) (fun h2 => ?_)
    · refine Zq [7] 3 [] rfl rfl ?_;refine Zr 3 rfl ?_;refine GT_nil ?_;refine GE_ret Tryz.func85 ⟨_, _, rfl, rfl, rfl⟩ (fun w hw => ⟨?_, hw.nil⟩)
      first | rw [he, he2] | rw [he]
    · exact absurd (by omega) hne
theorem C_lathe_newSide_ok {b : Blank} {A : Option Addr} {l : List Pt} {c : Nat} {w : World} (hp : RdL w 2 ePt A l) (he : both b l = 0) : Con Tryz.prog 85 [b.val, .slice A l.length c] w (fun _ : Nat => True) (fun bs => .tuple #[ptr bs 0, I 0]) (fun bs => [(bs, blk (sideCells b A l c) 230)]) := by
  obtain ⟨hb, h3, h4⟩ := both_zero.1 he
  rw [both_ok hb] at he
  refine Ret_of (vs := [_, _]) hm none' Tryz.func85 rfl Tryz.ntmps85 rfl ?_
  dsimp only [slotsOf]
  refine Zp 3 [0] rfl ?_;refine Zx [_, _, _, _, _, _] rfl rfl fun b2 => ?_;refine Zr 2 rfl ?_;refine Zz ?_;refine Zp 3 [1] rfl ?_;refine ZN [_, _, _, _, _, _] rfl ag_150 sz_150 rfl rfl ?_;refine Zc rfl rn_103 (fun w hw => C_lathe_Check (b := b)) GR_nil ?_;refine Zv rfl ?_;refine GT_nil ?_;refine Zq [1, 2, 6] 2 [] rfl rfl ?_;refine Zv rfl ?_;refine GT_S rfl (V_neq rfl rfl rfl) ?_;refine GT_nil ?_;refine GE_condNot rfl (fun h1 => ?_) (fun h1 => ?_)
  · exact absurd (Blank.check_ne.1 h1) (by rw [hb]; decide)
  · refine GE_skip ?_;refine GE_seq ?_;refine Zp 3 [1] rfl ?_;refine Zv rfl ?_;refine Zc rfl rn_81 (fun w hw => C_groove_CheckPoints (hp.sh hw)) GR_nil ?_;refine Zv rfl ?_;refine GT_nil ?_;refine Zq [1, 2, 7] 2 [] rfl rfl ?_;refine Zv rfl ?_;refine GT_S rfl (V_neq rfl rfl rfl) ?_;refine GT_nil ?_;refine GE_condNot rfl (fun h2 => ?_) (fun h2 => ?_)
    · exact absurd he h2
    · refine GE_skip ?_;refine Zp 8 [5] rfl ?_;refine ZN [_, _, _, _, _, _] rfl ag_150 sz_150 rfl rfl ?_;refine Zv rfl ?_;refine Zg rfl fo_150_0 rfl ag_2 rfl ?_;refine GT_S rfl (V_build (vs := [_, _, _, _, _, _, _, _]) rfl rfl zc_230 pl_230 sa_230 rfl) ?_;refine Zx [_, _, _, _, _, _, _, _] rfl rfl fun b23 => ?_;refine Zr 2 rfl ?_;refine GT_nil ?_;refine GE_ret Tryz.func85 ⟨_, _, rfl, rfl, rfl⟩ (fun w hw => ⟨b23, trivial, rfl, (show SH _ _ [(b23, blk [I b.per, I b.rim, I b.core, I b.land, I b.slow, I b.fast, .slice A l.length c, I b.per] 230)] _ from hw.chunk)⟩)
      skip
theorem C_lathe_Outermost {b : Blank} {A : Option Addr} {l : List Pt} {c : Nat} {w : World} (hp : RdL w 2 ePt A l) :
    Con Tryz.prog 63 [b.val, .slice A l.length c] w (fun y : Option Addr × Nat × Items => Own 1 2 eI (outR b l) (.slice y.1 (outR b l).length y.2.1) y.2.2) (fun y => .tuple #[.slice y.1 (outR b l).length y.2.1, I (outE b l)]) (fun y => y.2.2) := by
  by_cases he : both b l = 0
  · obtain ⟨hb, h3, h4⟩ := both_zero.1 he
    have hpb := ptB_of h4
    refine Ret_of (vs := [_, _]) hm none' Tryz.func63 rfl Tryz.ntmps63 rfl ?_
    dsimp only [slotsOf]
    refine Zp 3 [0] rfl ?_;refine Zx [_, _, _, _, _, _] rfl rfl fun b2 => ?_;refine Zr 2 rfl ?_;refine GT_nil ?_;refine Zp 8 [2] rfl ?_;refine ZN [_, _, _, _, _, _] rfl ag_150 sz_150 rfl rfl ?_;refine Zv rfl ?_;refine ZC rfl rn_85 (fun w hw => C_lathe_newSide_ok (hp.sh hw) he) (fun _ _ => GR_nil) (fun bs _ => ?_);refine Zr 5 rfl ?_;refine Zz ?_;refine Zq [6, 7] 2 [] rfl rfl ?_;refine Zv rfl ?_;refine GT_S rfl (V_neq rfl rfl rfl) ?_;refine GT_nil ?_;refine GE_condNot rfl (fun h1 => ?_) (fun h1 => ?_)
    · exact absurd rfl h1
    · refine GE_skip ?_;refine Zp 4 [1, 2, 3] rfl ?_;refine Zv rfl ?_;refine ZC rfl rn_86 (fun w hw => C_lathe_search (SideAt.of hw) (hp.sh hw) hb h3 h4) (fun _ _ => GR_nil) (fun y hy => ?_)
      obtain ⟨rad, st, ⟨A1, c1, I1⟩, A2, c2, I2⟩ := y; obtain ⟨hS, hO1, hO2⟩ := hy; dsimp only at hS hO1 hO2 ⊢
      refine Zb rfl zc_187 fun b8 => ?_;refine ZS [_, _] [_, _] rfl rfl sz_187 rfl rfl rfl ?_;refine Zz ?_;refine Zq [8] 4 [] rfl rfl ?_;refine Zg rfl fo_187_1 rfl ag_185 rfl ?_;refine Zn rfl Tryz.underlying185 ?_;refine GT_S rfl (V_gtr rfl rfl rfl) ?_;refine GT_nil ?_;refine GE_cond rfl (fun h5 => ?_) (fun h5 => ?_)
      · refine Zq [] 2 [] rfl rfl ?_;refine Zr 2 rfl ?_;refine GT_nil ?_;refine GE_ret Tryz.func63 ⟨_, _, rfl, rfl, rfl⟩ (fun w hw => ?_)
        rcases search_outer hb hpb hS with ⟨rfl, _⟩ | ⟨_, g2⟩; exact absurd h5 (by simp); obtain ⟨e1, e2⟩ := outE_none he g2; exact ⟨(none, 0, []), by rw [e2]; exact Own.nil, by rw [e1, e2]; rfl, hw.nil⟩
      · refine GE_skip ?_;refine Zq [8] 4 [] rfl rfl ?_;refine Zg rfl fo_187_0 rfl ag_43 rfl ?_;refine Zr 2 rfl ?_;refine GT_nil ?_;refine GE_ret Tryz.func63 ⟨_, _, rfl, rfl, rfl⟩ (fun w hw => ?_)
        rcases search_outer hb hpb hS with ⟨_, g2⟩ | ⟨g1, _⟩; obtain ⟨e1, e2⟩ := outE_of he g2; exact ⟨(A1, c1, I1), by rw [e2]; exact hO1, by rw [e1, e2], hw.chunk⟩; exact absurd g1 (by omega)
  · obtain ⟨e1, e2⟩ := outE_err he
    refine Ret_of (vs := [_, _]) hm none' Tryz.func63 rfl Tryz.ntmps63 rfl ?_
    dsimp only [slotsOf]
    refine Zp 3 [0] rfl ?_;refine Zx [_, _, _, _, _, _] rfl rfl fun b2 => ?_;refine Zr 2 rfl ?_;refine GT_nil ?_;refine Zp 8 [2] rfl ?_;refine ZN [_, _, _, _, _, _] rfl ag_150 sz_150 rfl rfl ?_;refine Zv rfl ?_;refine Zc rfl rn_85 (fun w hw => C_lathe_newSide_err (hp.sh hw) he) GR_nil ?_;refine Zr 5 rfl ?_;refine Zz ?_;refine Zq [6, 7] 2 [] rfl rfl ?_;refine Zv rfl ?_;refine GT_S rfl (V_neq rfl rfl rfl) ?_;refine GT_nil ?_;refine GE_condNot rfl (fun h5 => ?_) (fun h5 => ?_)
    · refine Zp 3 [] rfl ?_;refine Zr 3 rfl ?_;refine GT_nil ?_;refine GE_ret Tryz.func63 ⟨_, _, rfl, rfl, rfl⟩ (fun w hw => ?_)
      exact ⟨(none, 0, []), by rw [e2]; exact Own.nil, by rw [e1, e2]; rfl, hw.nil⟩
    · exact absurd (by omega) he
end Go.Proofs.YtncleikbggjmjaaGreatDoor.Lathe
/- The reference's outermost cut and check of a cut, walked. -/
namespace Go.Proofs.YtncleikbggjmjaaGreatDoor.Lathe
open Go.Sx Go.Proofs
end Go.Proofs.YtncleikbggjmjaaGreatDoor.Lathe
/- The lathe's check of a cut, walked. -/
namespace Go.Proofs.YtncleikbggjmjaaGreatDoor.Lathe
open Go.Sx Go.Proofs
def BlkAt (w : World) (g : Nat) (cs : List Value) (t : TypeId) : Prop := w.heap[g]? = some (blk cs t)
theorem BlkAt.cell {w : World} {g o : Nat} {cs : List Value} {t : TypeId} {v : Value} (h : BlkAt w g cs t) (hv : cs[o]? = some v) : w.cell? ⟨g, o, none⟩ = some v := by
  unfold BlkAt at h
  simp [World.cell?, h, hv]
theorem BlkAt.sh {w0 w : World} {g : Nat} {cs : List Value} {t : TypeId} {H : Items} (h : BlkAt w0 g cs t) (m : SH w0 none' H w) : BlkAt w g cs t := by
  unfold BlkAt at h ⊢
  rw [m.old g (Array.getElem?_eq_some_iff.1 h).1 (fun e => e)]; exact h
theorem BlkAt.of {w0 w : World} {M : Nat → Prop} {H : Items} {g : Nat} {cs : List Value} {t : TypeId} (m : SH w0 M H w) [h : HFind g H (blk cs t)] : BlkAt w g cs t := (m.item _ h.mem).2
end Go.Proofs.YtncleikbggjmjaaGreatDoor.Lathe
/- The lathe's check of a cut: the first rule that is not kept, walked. -/
namespace Go.Proofs.YtncleikbggjmjaaGreatDoor.Lathe
open Go.Sx Go.Proofs
end Go.Proofs.YtncleikbggjmjaaGreatDoor.Lathe
/- Locked grooves, and the example, walked. -/
namespace Go.Proofs.YtncleikbggjmjaaGreatDoor.Lathe
open Go.Sx Go.Proofs
section
variable {b : Blank} {A A2 : Option Addr} {l : List Pt} {r : List Int} {c c2 bs cs i : Nat} {h : Int} {w : World}
end
end Go.Proofs.YtncleikbggjmjaaGreatDoor.Lathe
/- Works, valid, and LatheCuts, walked. -/
namespace Go.Proofs.YtncleikbggjmjaaGreatDoor.Lathe
open Go.Sx Go.Proofs
end Go.Proofs.YtncleikbggjmjaaGreatDoor.Lathe
/- LatheCuts, walked. -/
namespace Go.Proofs.YtncleikbggjmjaaGreatDoor.Lathe
open Go.Sx Go.Proofs
end Go.Proofs.YtncleikbggjmjaaGreatDoor.Lathe
/- Proofs that a groove has no cut: what is accepted, that it is right, and that what the search finds is accepted. -/
namespace Go.Proofs.YtncleikbggjmjaaGreatDoor.Lathe
open Go.Sx
/-! a proof is right -/
/-! what the search finds is accepted -/
end Go.Proofs.YtncleikbggjmjaaGreatDoor.Lathe
/- Refuse and CheckRefusal, walked. -/
namespace Go.Proofs.YtncleikbggjmjaaGreatDoor.Lathe
open Go.Sx Go.Proofs
section
variable {b : Blank} {A A2 : Option Addr} {l : List Pt} {st : List Stp} {c c2 : Nat} {w : World}
end
end Go.Proofs.YtncleikbggjmjaaGreatDoor.Lathe
/- What the search finds is a proof, from each step of a circle on; a way is not without an end. In plain Lean. -/
namespace Go.Proofs.YtncleikbggjmjaaGreatDoor.Lathe
open Go.Sx
end Go.Proofs.YtncleikbggjmjaaGreatDoor.Lathe
/- The works of chapter 05, and a groove without a signal. -/
namespace Go.Proofs.YtncleikbggjmjaaGreatDoor.Side
open Go.Sx Go.Proofs Go.RowKit Lathe
def w5L : List Pt := [⟨-20, 20⟩, ⟨-20, 20⟩, ⟨-20, 20⟩, ⟨-20, 50⟩, ⟨-20, 20⟩]
def w5B : Blank := ⟨2, 1000, 100, 10, 1, 100⟩
def w5R : List Int := outR w5B w5L
theorem w5_err : outE w5B w5L = 0 := by kernel_rfl
theorem w5_len : w5R.length = 5 := by kernel_rfl
theorem w5_at : w5R.getD 3 default = 899 := by kernel_rfl
def fE : Fmt := ⟨⟨#[102]⟩, 1000, 400, 10, 0, 0, 0, 0⟩
def tE : Trk := ⟨95, 20, 0⟩
theorem nm_f : (1 ≤ (⟨#[102]⟩ : ByteArray).size ∧ (⟨#[102]⟩ : ByteArray).size ≤ 20) ∧ ∀ i, i < (⟨#[102]⟩ : ByteArray).size → 97 ≤ ((byz ⟨#[102]⟩).getD i default).toNat ∧ ((byz ⟨#[102]⟩).getD i default).toNat ≤ 122 := by
  refine ⟨by decide, fun i hi => ?_⟩
  obtain rfl : i = 0 := by
    have : (⟨#[102]⟩ : ByteArray).size = 1 := rfl
    omega
  decide
theorem fE_ok : fE.Ok := ⟨nm_f, by decide, by decide, by decide, by decide, by decide, by decide, by decide⟩
theorem tE_ok : tE.Ok := ⟨by decide, by decide, by decide⟩
section
variable {w : World} {A : Option Addr} {c n : Nat} {h : Int}
theorem C_Out5 (hp : RdL w 2 ePt A w5L) : Con Tryz.prog 63 [.agg #[I 2, I 1000, I 100, I 10, I 1, I 100], .slice A 5 c] w (fun y : Option Addr × Nat × Items => Own 1 2 eI w5R (.slice y.1 5 y.2.1) y.2.2) (fun y => .tuple #[.slice y.1 5 y.2.1, I 0]) (fun y => y.2.2) := by
  have h1 := C_lathe_Outermost (b := w5B) (c := c) hp
  rw [w5_err, show outR w5B w5L = w5R from rfl, w5_len] at h1
  exact h1
set_option maxRecDepth 10000 in
theorem C_works05 : Con0 Tryz.prog 39 [] w (.bool true) := by
  refine Ret_of (vs := []) hm none' Tryz.func39 rfl Tryz.ntmps39 rfl ?_
  dsimp only [slotsOf]
  refine Zp 1 [] rfl ?_;refine Zv rfl ?_;refine GT_nil ?_;refine Zp 6 [2, 3, 4, 5] rfl ?_;refine GT_S rfl (V_build (vs := [_, _]) rfl rfl zc_115 pl_115 sa_115 rfl) ?_;refine GT_S rfl (V_build (vs := [_, _]) rfl rfl zc_115 pl_115 sa_115 rfl) ?_;refine Zb rfl zc_115 fun b1 => ?_;refine Zb rfl zc_115 fun b2 => ?_;refine ZS [_, _] [_, _] rfl rfl sz_115 rfl rfl rfl ?_;refine ZS [_, _] [_, _] rfl rfl sz_115 rfl rfl rfl ?_;refine GT_nil ?_;refine Zp 3 [1, 2] rfl ?_;refine GT_S rfl (V_build (vs := [_, _, _, _, _, _]) rfl rfl zc_150 pl_150 sa_150 rfl) ?_;refine Zb rfl zc_150 fun b3 => ?_;refine ZS [_, _, _, _, _, _] [_, _, _, _, _, _] rfl rfl sz_150 rfl rfl rfl ?_;refine GT_nil ?_;refine Zq [1, 2, 3] 13 [6, 7] rfl rfl ?_;refine ZN [_, _, _, _, _, _] rfl ag_150 sz_150 rfl rfl ?_;refine ZN [_, _] rfl ag_115 sz_115 rfl rfl ?_;refine ZN [_, _] rfl ag_115 sz_115 rfl rfl ?_;refine ZN [_, _] rfl ag_115 sz_115 rfl rfl ?_;refine ZN [_, _] rfl ag_115 sz_115 rfl rfl ?_;refine ZN [_, _] rfl ag_115 sz_115 rfl rfl ?_;refine GT_buildSlice (z := [_, _, _, _, _, _, _, _, _, _]) rfl rfl rfl rfl rfl Tryz.underlying109 zc_115 sz_115 (by decide) rfl rfl (fun _ => GR_nil) (fun b18 => ?_);refine ZC rfl rn_63 (fun w hw => C_Out5 (RdL.own' (l := w5L) hw ePt_len)) (fun _ _ => GR_nil) (fun y hy => ?_);refine Zr 5 rfl ?_;refine GT_nil ?_;refine Zq [4, 5] 8 [2] rfl rfl ?_;refine GT_S rfl (V_build (vs := [_, _, _, _, _, _, _, _]) rfl rfl zc_154 pl_154 sa_154 rfl) ?_;refine GT_S rfl (V_build (vs := [_, _, _]) rfl rfl zc_156 pl_156 sa_156 rfl) ?_;refine Zc rfl rn_64 (fun w hw => C_Width (f := fE) (t := tE) fE_ok tE_ok) GR_nil ?_;refine Zr 5 rfl ?_;refine GT_nil ?_;refine Zq [4, 5, 6, 7] 25 [22] rfl rfl ?_;refine Zv rfl ?_;refine GT_S rfl (V_isT (V_eql rfl rfl rfl) rfl) ?_;refine Zr 2 rfl ?_;refine GT_S rfl (V_isT (V_eql rfl rfl rfl) rfl) ?_;refine Zr 3 rfl ?_;refine Zn rfl Tryz.underlying43 ?_;refine GT_S rfl (V_isT (V_eql rfl rfl rfl) rfl) ?_;refine Zr 3 rfl ?_;refine GT_S rfl (V_index (k := 3) rfl rfl rfl Tryz.underlying43 sz_2 rfl (by decide) (hy.isSome (k := 3) (by rw [w5_len]; decide))) ?_;refine ZL rfl ag_2 (CellAt.own0 hy eI_len (k := 3) (by rw [w5_len]; decide) (by rw [w5_at]; rfl)) ?_;refine GT_S rfl (V_isT (V_eql rfl rfl rfl) rfl) ?_;refine Zr 3 rfl ?_;refine GT_S rfl (V_isT (V_eql rfl rfl rfl) (by decide)) ?_;refine Zr 2 rfl ?_;refine Zc rfl rn_65 (fun w hw => C_works03) GR_nil ?_;refine Zr 2 rfl ?_;refine GT_nil ?_;refine GE_ret Tryz.func39 rfl (fun w hw => ⟨?_, hw.nil⟩)
  rfl
end
end Go.Proofs.YtncleikbggjmjaaGreatDoor.Side
/- The pages of a folded sheet, walked. -/
namespace Go.Proofs.YtncleikbggjmjaaGreatDoor.Slv
open Go.Sx Go.Proofs Go.RowKit
open Side (eN eN_len eN_one getD_memT)
section
variable {w w0 : World} {A : Option Addr} {c b1 lp : Nat} {f : List Int}
end
end Go.Proofs.YtncleikbggjmjaaGreatDoor.Slv
/- Pages and Page, walked. -/
namespace Go.Proofs.YtncleikbggjmjaaGreatDoor.Slv
open Go.Sx Go.Proofs Go.RowKit
open Side (eN eN_len eN_one getD_memT sh_trans)
section
variable {w w0 : World} {A : Option Addr} {c b1 lp : Nat} {f : List Int}
variable {l : List Leaf} {p : Leaf → Bool} {fi : Nat} {cs : List Value}
end
end Go.Proofs.YtncleikbggjmjaaGreatDoor.Slv
/- Designs on sheets: how many sheets are enough, plain and walked. -/
namespace Go.Proofs.YtncleikbggjmjaaGreatDoor.Slv
open Go.Sx Go.Proofs Go.RowKit
open Side (eN eN_len eN_one getD_memT sh_trans)
def cd (n m : Int) : Int := (n + m - 1) / m
def plL (l : List Int) (m : Int) : List Int := l.map (cd · m)
def rsum (l : List Int) (m : Int) : Int := (plL l m).sum
structure Lst (l : List Int) (s n : Int) : Prop where
  lo : 1 ≤ n
  hi : n ≤ 1048576
  ok : rsum l n ≤ s
  least : ∀ m, 1 ≤ m → m < n → s < rsum l m
theorem Lst.uniq {l : List Int} {s n n' : Int} (h : Lst l s n) (h' : Lst l s n') : n = n' := by
  have h1 := h.lo; have h2 := h'.lo
  rcases (show n < n' ∨ n = n' ∨ n' < n by omega) with q | q | q
  · have := h'.least n h1 q; have := h.ok; omega
  · exact q
  · have := h.least n' h2 q; have := h'.ok; omega
section
variable {w w0 : World} {A : Option Addr} {c : Nat} {l : List Int}
variable {p : Int → Bool} {fi : Nat} {cs : List Value}
end
end Go.Proofs.YtncleikbggjmjaaGreatDoor.Slv
/- What a tip reads of a wall: plain and walked. -/
namespace Go.Proofs.YtncleikbggjmjaaGreatDoor.Ply
open Go.Sx Go.Proofs Go.RowKit
open Side (eN eN_len eN_one getD_memT sh_trans eP2 eP2_len eP2_one)
def dst (i u : Nat) : Nat := (u - i) + (i - u)
def lo (i r : Nat) : Nat := i + 1 - r
def hi (n i r : Nat) : Nat := min n (i + r)
def mnq (hs sh : List Int) (i b : Nat) (f : Int) : Nat → Int
  | 0 => f
  | j + 1 => if hs.getD (b + j) default + sh.getD (dst i (b + j)) default < mnq hs sh i b f j then hs.getD (b + j) default + sh.getD (dst i (b + j)) default else mnq hs sh i b f j
def wv (hs sh : List Int) (i : Nat) : Int := mnq hs sh i (lo i sh.length) (hs.getD i default) (hi hs.length i sh.length - lo i sh.length)
def wal (hs sh : List Int) : List Int := (List.range hs.length).map (wv hs sh)
structure WOk (hs sh : List Int) : Prop where
  hl : hs.length ≤ 1000
  sl : 1 ≤ sh.length ∧ sh.length ≤ 64
  hb : ∀ x ∈ hs, -4194304 ≤ x ∧ x ≤ 4194304
  sb : ∀ x ∈ sh, 0 ≤ x ∧ x ≤ 4194304
theorem near_bd {n i r u : Nat} (_hi : i < n) (h1 : lo i r ≤ u) (h2 : u < hi n i r) : u < n ∧ dst i u < r := by unfold lo at h1; unfold hi at h2; unfold dst; omega
theorem lo_hi {n i r : Nat} (h : i < n) (hr : 1 ≤ r) : lo i r ≤ i ∧ i < hi n i r := by unfold lo hi; omega
theorem mnq_bd {hs sh : List Int} {i : Nat} (h : WOk hs sh) (hi0 : i < hs.length) : ∀ j, lo i sh.length + j ≤ hi hs.length i sh.length → -4194304 ≤ mnq hs sh i (lo i sh.length) (hs.getD i default) j ∧ mnq hs sh i (lo i sh.length) (hs.getD i default) j ≤ 4194304
  | 0, _ => h.hb _ (getD_memT hi0)
  | j + 1, hj => by
    have ih := mnq_bd h hi0 j (by omega)
    obtain ⟨b1, b2⟩ := near_bd (r := sh.length) (u := lo i sh.length + j) hi0 (by omega) (by omega)
    have h1 := h.hb _ (getD_memT b1)
    have h2 := h.sb _ (getD_memT b2)
    rw [mnq]
    split <;> omega
theorem wal_len (hs sh : List Int) : (wal hs sh).length = hs.length := by simp [wal]
theorem wal_bd {hs sh : List Int} (h : WOk hs sh) : ∀ x ∈ wal hs sh, -4194304 ≤ x ∧ x ≤ 4194304 := by
  intro x hx
  obtain ⟨i, hi0, rfl⟩ := List.mem_map.1 hx
  have hin := List.mem_range.1 hi0
  have := lo_hi hin h.sl.1
  exact mnq_bd h hin _ (by omega)
section
variable {w w0 : World} {A A2 : Option Addr} {c c2 lp i n r b1 b2 b3 b4 b5 b8 : Nat} {hs sh : List Int}
abbrev nearB (i r n b1 b2 b3 : Nat) : Items := [(b1, blk [I i] 3), (b2, blk [I r] 3), (b3, blk [I n] 3)]
theorem C_near : Con Tryz.prog 99 [I i, I n, I r] w (fun _ : Nat × Nat × Nat => True) (fun y => .func (.func 123) #[] #[ptr y.1 0, ptr y.2.1 0, ptr y.2.2 0]) (fun y => nearB i r n y.1 y.2.1 y.2.2) := by
  refine Ret_of (vs := [_, _, _]) hm none' Tryz.func99 rfl Tryz.ntmps99 rfl ?_
  dsimp only [slotsOf]
  refine Zp 4 [0, 1, 2] rfl ?_;refine Zx [_] rfl rfl fun b3 => ?_;refine Zx [_] rfl rfl fun b4 => ?_;refine Zx [_] rfl rfl fun b5 => ?_;refine Zv rfl ?_;refine GT_nil ?_;refine Zq [3, 4, 5] 2 [] rfl rfl ?_;refine GT_S rfl (V_makeFunc rfl rfl rfl) ?_;refine Zv rfl ?_;refine GT_nil ?_;refine GE_ret Tryz.func99 rfl (fun w hw => ?_)
  exact ⟨(b3, b5, b4), trivial, rfl, hw.hs (C := cx Tryz.prog hm 0 0 _ none' fun _ _ => True) (HS.cons rfl (HS.cons rfl (HS.cons rfl HS.nil)))⟩
set_option maxRecDepth 10000 in
theorem C_near1 {Q : Nat → Items → Prop} {J G : Items} (hin : i < n) (hn : n ≤ 1000) (hr : 1 ≤ r ∧ r ≤ 64)
    (hY : ∀ u J, lo i r ≤ u → u < hi n i r → Q u J → ∀ G, YieldTo Tryz.prog w0 none' lp [I u, I (dst i u)] (J ++ G) fun v H' => ∃ J', v = .bool true ∧ Q (u + 1) J' ∧ H' = J' ++ G)
    (hQ : Q (lo i r) J) (m : SH w0 none' (J ++ (nearB i r n b1 b2 b3 ++ G)) w) :
    Ret Tryz.prog 123 [.func (.yield lp) #[] #[], ptr b1 0, ptr b2 0, ptr b3 0].toArray w fun _ w' => ∃ J', Q (hi n i r) J' ∧ SH w0 none' (J' ++ G) w' := by
  have hlh := lo_hi hin hr.1
  refine Ret_ofH (vs := [_, _, _, _]) hm none' Tryz.func123 rfl Tryz.ntmps123 rfl m ?_
  dsimp only [slotsOf]
  refine Zp 6 [] rfl ?_;refine Zl rfl ag_3 rfl ?_;refine Zl rfl ag_3 rfl ?_;refine Za rfl (by omega) ?_;refine Za rfl (by omega) ?_;refine GT_S rfl (V_max rfl rfl rfl) ?_;refine Zv rfl ?_;refine GT_nil ?_;refine GE_block ?_;refine GE_to (GE_loop (ι := Nat × Items) (fun z => hi n i r - z.1) (fun z => [(0, .func (.yield lp) #[] #[]), (1, ptr b1 0), (2, ptr b2 0), (3, ptr b3 0), (5, I z.1)]) (fun z => z.2 ++ (nearB i r n b1 b2 b3 ++ G)) (fun z => (lo i r ≤ z.1 ∧ z.1 ≤ hi n i r) ∧ Q z.1 z.2) ?_ (lo i r, J) ?_) ⟨rfl, rfl, rfl, rfl, lookI rfl (by dsimp only; unfold lo; omega), trivial⟩ (HS.chunk (HS.cons rfl (HS.cons rfl (HS.cons rfl (HS.last (I := G))))))
  · rintro ⟨u, J1⟩ ⟨⟨hu1, hu2⟩, hQ1⟩ ih; dsimp only at hu1 hu2 hQ1 ih ⊢
    refine GE_seq ?_;refine Zp 7 [] rfl ?_;refine Zv rfl ?_;refine Zl rfl ag_3 rfl ?_;refine Zl rfl ag_3 rfl ?_;refine Zl rfl ag_3 rfl ?_;refine Za rfl (by omega) ?_;refine GT_S rfl (V_min rfl rfl rfl) ?_;refine GT_S rfl (V_lss rfl rfl rfl) ?_;refine GT_nil ?_;refine GE_cond rfl (fun q1 => ?_) (fun q1 => ?_)
    · have huh : u < hi n i r := (by unfold hi; omega); have hub := near_bd hin hu1 huh
      refine GE_skip ?_;refine GE_seq ?_;refine GE_block ?_;refine Zq [0, 1, 2, 3, 5] 11 [9] rfl rfl ?_;refine Zr 3 rfl ?_;refine Zl rfl ag_3 rfl ?_;refine Za rfl (by omega) ?_;refine Zl rfl ag_3 rfl ?_;refine Zv rfl ?_;refine Za rfl (by omega) ?_;refine GT_S rfl (V_eqv (V_max rfl rfl rfl) (congrArg I (show _ = ((dst i u : Nat) : Int) by unfold dst; omega))) ?_;refine GT_yield rfl rfl rfl rfl rfl rfl rfl (YieldTo.chunk (hY u J1 hu1 huh hQ1 _)) (fun _ _ _ => GR_nil) (fun v H' hR => ?_)
      obtain ⟨J2, rfl, hQ2, rfl⟩ := hR
      refine GT_S rfl (V_notB rfl rfl) ?_;refine GT_nil ?_;refine GE_cond_f rfl ?_;refine GE_skip ?_;refine GE_inBlock ?_;refine Zs [0, 1, 2, 3, 5] rfl ?_;refine ZP 3 [2] rfl ?_;refine Zv rfl ?_;refine Za rfl (by omega) ?_;refine Zw rfl ?_;refine GT_nil ?_
      exact GE_to (ih (u + 1, J2) ⟨⟨by dsimp only; omega, by dsimp only; omega⟩, hQ2⟩ (by dsimp only; omega)) ⟨rfl, rfl, rfl, rfl, rfl, trivial⟩ (HS.chunk (HS.cons rfl (HS.cons rfl (HS.cons rfl (HS.last (I := G))))))
    · obtain rfl : u = hi n i r := (by unfold hi at *; omega)
      refine GE_exit rfl ?_;refine GE_end Tryz.func123 rfl (fun w hw => ⟨J1, hQ1, hw.hs (C := cx Tryz.prog hm 0 0 w0 none' fun _ _ => True) (HS.chunk HS.last)⟩)
      skip
  · exact ⟨⟨Nat.le_refl _, by omega⟩, hQ⟩
end
end Go.Proofs.YtncleikbggjmjaaGreatDoor.Ply
/- What a tip reads of a wall, walked. -/
namespace Go.Proofs.YtncleikbggjmjaaGreatDoor.Ply
open Go.Sx Go.Proofs Go.RowKit
open Side (eN eN_len eN_one getD_memT sh_trans eP2 eP2_len eP2_one)
def wq (hs sh : List Int) (k : Nat) : List Int := (List.range k).map (wv hs sh) ++ List.replicate (hs.length - k) 0
theorem wq_len {hs sh : List Int} {k : Nat} (hk : k ≤ hs.length) : (wq hs sh k).length = hs.length := by simp [wq]; omega
theorem wq_all (hs sh : List Int) : wq hs sh hs.length = wal hs sh := by simp [wq, wal]
theorem wq_set {hs sh : List Int} {k : Nat} (hk : k < hs.length) : (wq hs sh k).set k (wv hs sh k) = wq hs sh (k + 1) := by
  unfold wq
  rw [show hs.length - k = (hs.length - (k + 1)) + 1 by omega, List.replicate_succ, List.set_append, if_neg (by simp)]
  simp [List.range_succ]
section
variable {w w0 : World} {A A2 : Option Addr} {c c2 lp i n r b1 b2 b3 b4 bd b8 : Nat} {hs sh : List Int}
set_option maxRecDepth 10000 in
theorem C_walk1 {Q : Nat → Items → Prop} {J G : Items} (h8 : BlkAt w0 b8 [I i] 3) (h4 : BlkAt w0 b4 [.slice A hs.length c] 43) (h3 : BlkAt w0 b3 [.slice A2 sh.length c2] 113) (h5 : BlkAt w0 bd [.bool false] 4)
    (hr : RdL w0 1 eN A hs) (hr2 : RdL w0 1 eN A2 sh) (hok : WOk hs sh) (hin : i < hs.length)
    (hY : ∀ u J, lo i sh.length ≤ u → u < hi hs.length i sh.length → Q u J → ∀ G, YieldTo Tryz.prog w0 none' lp [I (hs.getD u default + sh.getD (dst i u) default)] (J ++ G) fun v H' => ∃ J', v = .bool true ∧ Q (u + 1) J' ∧ H' = J' ++ G)
    (hQ : Q (lo i sh.length) J) (m : SH w0 none' (J ++ G) w) :
    Ret Tryz.prog 98 [.func (.yield lp) #[] #[], ptr b8 0, ptr b4 0, ptr b3 0, ptr bd 0].toArray w fun _ w' => ∃ J', Q (hi hs.length i sh.length) J' ∧ SH w0 none' (J' ++ G) w' := by
  have hl1 := hok.hl
  have hl2 := hok.sl
  refine Ret_ofH (vs := [_, _, _, _, _]) hm none' Tryz.func98 rfl Tryz.ntmps98 rfl m ?_
  dsimp only [slotsOf]
  refine Zp 1 [0] rfl ?_;refine Zx [_] rfl rfl fun b5 => ?_;refine GT_nil ?_;refine Zp 7 [6] rfl ?_;refine ZL rfl ag_3 (CellAt.old (h8.cell rfl) (fun q => q)) ?_;refine ZL rfl ag_43 (CellAt.old (h4.cell rfl) (fun q => q)) ?_;refine Zn rfl Tryz.underlying43 ?_;refine Zf rfl fo_113_0 ?_;refine ZL rfl ag_43 (CellAt.old (h3.cell rfl) (fun q => q)) ?_;refine Zn rfl Tryz.underlying43 ?_;refine ZC rfl rn_99 (fun w hw => C_near (i := i) (n := hs.length) (r := sh.length)) (fun _ _ => GR_nil) (fun bn _ => ?_);refine GT_nil ?_;refine GE_block ?_;refine GE_range rfl rfl rn_123 (fun T l5 q r0 hr0 hT hlk w hw => ?_);refine (C_near1 (lp := l5) (i := i) (n := hs.length) (r := sh.length) (J := (l5, .loop r0) :: (b5, blk [.func (.yield lp) #[] #[]] 171) :: J) (G := (q, .deferred (some [])) :: G)
    (Q := fun u J' => ∃ J1, Q u J1 ∧ J' = (l5, .loop r0) :: (b5, blk [.func (.yield lp) #[] #[]] 171) :: J1)
    hin hl1 hl2 ?_ ⟨J, hQ, rfl⟩ (hw.hs (C := cx Tryz.prog hm 0 0 w0 none' fun _ _ => True) (HS.cons rfl (HS.cons rfl (HS.chunk (HS.cons rfl (HS.cons rfl (HS.cons rfl (HS.cons rfl HS.last))))))))).mono (fun v w' ⟨J', ⟨J1, hQ1, hJ'⟩, hw'⟩ => ?_)
  · rintro u J2 hu1 hu2 ⟨J1, hQ1, hJ⟩ G2; subst hJ; subst hr0
    obtain ⟨hub1, hub2⟩ := near_bd hin hu1 hu2
    have hb1 := hok.hb _ (getD_memT hub1)
    have hb2 := hok.sb _ (getD_memT hub2)
    refine yield_of inferInstance rfl rfl hT hlk rfl rfl hm ?_;refine GE_slots (L' := [(2, ptr b4 0), (3, ptr b3 0), (4, ptr bd 0), (5, ptr b5 0), (16, I u), (17, I (dst i u))]) ⟨rfl, rfl, rfl, rfl, rfl, rfl, trivial⟩ ?_;refine Zp 1 [] rfl ?_;refine Zv rfl ?_;refine GT_nil ?_;refine ZP 1 [] rfl ?_;refine Zv rfl ?_;refine GT_nil ?_;refine GE_beginRound rfl ?_;refine GE_block ?_;refine Zp 6 [] rfl ?_;refine Zf rfl fo_113_0 ?_;refine ZL rfl ag_43 (CellAt.old (h3.cell rfl) (fun q => q)) ?_;refine Zv rfl ?_;refine GT_S rfl (V_index rfl rfl rfl Tryz.underlying43 sz_2 (k := dst i u) rfl hub2 (hr2.isSome hub2)) ?_;refine ZL rfl ag_2 (hr2.at0 (fun _ q => q) hub2 rfl) ?_;refine Zv rfl ?_;refine Zz ?_;refine Zq [2, 4, 5, 6, 8] 1 [] rfl rfl ?_;refine ZL rfl ag_4 (CellAt.old (h5.cell rfl) (fun q => q)) ?_;refine GT_nil ?_;refine GE_cond_f rfl ?_;refine GE_skip ?_;refine GE_seq ?_;refine GE_drawn (.st 0 (.st 1 (.st 2 (.st 3 (.st 4 (.st 5 (.st 6 (.ld 7 [] (.st 8 .nil))))))))) [7] (by decide +kernel) ?_;refine Zl rfl ag_171 rfl ?_;refine ZL rfl ag_43 (CellAt.old (h4.cell rfl) (fun q => q)) ?_;refine Zv rfl ?_;refine GT_S rfl (V_index rfl rfl rfl Tryz.underlying43 sz_2 (k := u) rfl hub1 (hr.isSome hub1)) ?_;refine ZL rfl ag_2 (hr.at0 (fun _ q => q) hub1 rfl) ?_;refine Zv rfl ?_;refine Za rfl (by omega) ?_;refine GT_yield rfl rfl rfl rfl rfl rfl rfl (YieldTo.chunk (hY u J1 hu1 hu2 hQ1 _)) (fun _ _ _ => GR_nil) (fun v H' hR => ?_)
    obtain ⟨J3, rfl, hQ3, rfl⟩ := hR
    refine GT_S rfl (V_notB rfl rfl) ?_;refine GT_nil ?_;refine GE_cond_f rfl ?_;refine GE_skip ?_;refine GE_inBlock ?_;refine GE_leave none rfl (fun w hw => ⟨_, ⟨_, rfl, ⟨J3, hQ3, rfl⟩, rfl⟩, ?_⟩)
    exact hw.hs (HS.cons rfl (HS.cons rfl (HS.chunk HS.last)))
  · subst hJ'; subst hr0
    refine ⟨_, J1 ++ G, ?_, hw'.hs (C := cx Tryz.prog hm 0 0 w0 none' fun _ _ => True) (HS.cons rfl (HS.cons rfl (HS.chunk HS.last))), ?_⟩
    · intro h; cases h
    refine GE_D (D' := dq [q]) ?_ rfl
    refine GE_inBlock ?_;refine GE_endq Tryz.func98 rfl (fun w hw => ⟨J1, hQ1, hw⟩)
    skip
end
end Go.Proofs.YtncleikbggjmjaaGreatDoor.Ply
/- What a tip reads of a wall, walked: the fold, and the whole wall. -/
namespace Go.Proofs.YtncleikbggjmjaaGreatDoor.Ply
open Go.Sx Go.Proofs Go.RowKit
open Side (eN eN_len eN_one getD_memT sh_trans eP2 eP2_len eP2_one)
section
variable {w w0 : World} {A A2 : Option Addr} {c c2 lp i n r g3 g4 gd g8 : Nat} {hs sh : List Int}
theorem C_less {a b : Int} : Con0 Tryz.prog 102 [I a, I b] w (.bool (decide (a < b))) := by
  refine Ret_of (vs := [_, _]) hm none' Tryz.func102 rfl Tryz.ntmps102 rfl ?_
  dsimp only [slotsOf]
  refine Zp 1 [] rfl ?_;refine Zv rfl ?_;refine GT_nil ?_;refine Zp 4 [] rfl ?_;refine Zr 2 rfl ?_;refine GT_S rfl (V_lss rfl rfl rfl) ?_;refine Zv rfl ?_;refine GT_nil ?_;refine GE_ret Tryz.func102 rfl (fun w hw => ⟨?_, hw.nil⟩)
  rfl
set_option maxRecDepth 10000 in
theorem C_fold {f0 : Int} (h8 : BlkAt w g8 [I i] 3) (h4 : BlkAt w g4 [.slice A hs.length c] 43) (h3 : BlkAt w g3 [.slice A2 sh.length c2] 113) (h5 : BlkAt w gd [.bool false] 4)
    (hr : RdL w 1 eN A hs) (hr2 : RdL w 1 eN A2 sh) (hok : WOk hs sh) (hin : i < hs.length) :
    Con0 Tryz.prog 100 [I f0, .func (.func 98) #[] #[ptr g8 0, ptr g4 0, ptr g3 0, ptr gd 0], .func (.func 102) #[] #[]] w (I (mnq hs sh i (lo i sh.length) f0 (hi hs.length i sh.length - lo i sh.length))) := by
  refine Ret_of (vs := [_, _, _]) hm none' Tryz.func100 rfl Tryz.ntmps100 rfl ?_
  dsimp only [slotsOf]
  refine Zp 3 [0, 1] rfl ?_;refine Zx [_] rfl rfl fun b3 => ?_;refine Zx [_] rfl rfl fun b5 => ?_;refine Zv rfl ?_;refine Zz ?_;refine Zp 1 [] rfl ?_;refine Zv rfl ?_;refine GT_nil ?_;refine GE_block ?_;refine GE_range rfl rfl rn_98 (fun T l5 q r0 hr0 hT hlk w hw => ?_);refine (C_walk1 (lp := l5) (i := i) (J := (l5, .loop r0) :: (b3, blk [I f0] 2) :: (b5, blk [.func (.func 102) #[] #[]] 170) :: []) (G := [(q, .deferred (some []))])
    (Q := fun u J' => J' = (l5, .loop r0) :: (b3, blk [I (mnq hs sh i (lo i sh.length) f0 (u - lo i sh.length))] 2) :: (b5, blk [.func (.func 102) #[] #[]] 170) :: [])
    h8 h4 h3 h5 hr hr2 hok hin ?_ (by rw [Nat.sub_self]; rfl) (hw.hs (C := cx Tryz.prog hm 0 0 _ none' fun _ _ => True) (HS.cons rfl (HS.cons rfl (HS.cons rfl (HS.cons rfl HS.nil)))))).mono (fun v w' ⟨J', hJ', hw'⟩ => ?_)
  · rintro u J2 hu1 hu2 hJ G2; subst hJ; subst hr0
    have hmn : mnq hs sh i (lo i sh.length) f0 (u + 1 - lo i sh.length) = if hs.getD u default + sh.getD (dst i u) default < mnq hs sh i (lo i sh.length) f0 (u - lo i sh.length) then hs.getD u default + sh.getD (dst i u) default else mnq hs sh i (lo i sh.length) f0 (u - lo i sh.length) := by
      rw [show u + 1 - lo i sh.length = (u - lo i sh.length) + 1 by omega, mnq, show lo i sh.length + (u - lo i sh.length) = u by omega]
    refine yield_of inferInstance rfl rfl hT hlk rfl rfl hm ?_;refine GE_slots (L' := [(3, ptr b3 0), (5, ptr b5 0), (9, I (hs.getD u default + sh.getD (dst i u) default))]) ⟨rfl, rfl, rfl, trivial⟩ ?_;refine ZP 1 [] rfl ?_;refine Zv rfl ?_;refine GT_nil ?_;refine GE_beginRound rfl ?_;refine GE_block ?_;refine Zp 4 [3] rfl ?_;refine Zl rfl ag_170 rfl ?_;refine Zv rfl ?_;refine Zl rfl ag_2 rfl ?_;refine Zc rfl rn_102 (fun w hw => C_less) GR_nil ?_;refine GT_nil ?_;refine GE_cond rfl (fun h1 => ?_) (fun h1 => ?_)
    · refine Zs [3, 7] rfl ?_;refine ZP 2 [1] rfl ?_;refine Zv rfl ?_;refine ZS [_] [_] rfl rfl sz_2 rfl rfl rfl ?_;refine GT_nil ?_;refine GE_inBlock ?_
      first
        | rw [if_pos h1] at hmn
          refine GE_leave none rfl (fun w hw => ⟨_, ⟨_, rfl, by rw [hmn], rfl⟩, ?_⟩)
          exact hw.hs (HS.cons rfl (HS.cons rfl (HS.cons rfl HS.last)))
        | rw [if_neg h1] at hmn
          refine GE_leave none rfl (fun w hw => ⟨_, ⟨_, rfl, by rw [hmn], rfl⟩, ?_⟩)
          exact hw.hs (HS.cons rfl (HS.cons rfl (HS.cons rfl HS.last)))
    · refine GE_skip ?_;refine GE_inBlock ?_
      first
        | rw [if_pos h1] at hmn
          refine GE_leave none rfl (fun w hw => ⟨_, ⟨_, rfl, by rw [hmn], rfl⟩, ?_⟩)
          exact hw.hs (HS.cons rfl (HS.cons rfl (HS.cons rfl HS.last)))
        | rw [if_neg h1] at hmn
          refine GE_leave none rfl (fun w hw => ⟨_, ⟨_, rfl, by rw [hmn], rfl⟩, ?_⟩)
          exact hw.hs (HS.cons rfl (HS.cons rfl (HS.cons rfl HS.last)))
  · subst hJ'; subst hr0
    refine ⟨_, [(b3, blk [I (mnq hs sh i (lo i sh.length) f0 (hi hs.length i sh.length - lo i sh.length))] 2)], ?_, hw'.hs (C := cx Tryz.prog hm 0 0 _ none' fun _ _ => True) (HS.cons rfl (HS.cons rfl (HS.cons rfl HS.nil))), ?_⟩
    · intro h; cases h
    refine GE_D (D' := dq [q]) ?_ rfl
    refine GE_inBlock ?_;refine Zq [3] 2 [] rfl rfl ?_;refine Zl rfl ag_2 rfl ?_;refine Zv rfl ?_;refine GT_nil ?_;refine GE_retq Tryz.func100 rfl (fun w hw => ⟨?_, hw.nil⟩)
    rfl
set_option maxRecDepth 10000 in
theorem C_walk (hr : RdL w 1 eN A hs) (hr2 : RdL w 1 eN A2 sh) (hok : WOk hs sh) : Con Tryz.prog 84 [.agg #[.slice A2 sh.length c2], .slice A hs.length c, .bool false] w (fun y : Option Addr × Nat × Items => Own 1 2 eN (wal hs sh) (.slice y.1 hs.length y.2.1) y.2.2) (fun y => .slice y.1 hs.length y.2.1) (fun y => y.2.2) := by
  have hl1 := hok.hl
  refine Ret_of (vs := [_, _, _]) hm none' Tryz.func84 rfl Tryz.ntmps84 rfl ?_
  dsimp only [slotsOf]
  refine Zp 4 [0, 1, 2] rfl ?_;refine Zx [_] rfl rfl fun b3 => ?_;refine Zx [_] rfl rfl fun b4 => ?_;refine Zx [_] rfl rfl fun b5 => ?_;refine Zv rfl ?_;refine GT_nil ?_;refine Zq [3, 4, 5] 4 [2] rfl rfl ?_;refine Zl rfl ag_43 rfl ?_;refine Zn rfl Tryz.underlying43 ?_;refine GT_makeSlice rfl rfl rfl rfl rfl rfl rfl Tryz.underlying43 zc_2 sz_2 by_2 (nn := hs.length) ⟨rfl, rfl, rfl⟩ (by omega) (fun _ => GR_nil) (fun b13 => ?_);refine Zv rfl ?_;refine Zz ?_;refine Zp 3 [] rfl ?_;refine Zl rfl ag_43 rfl ?_;refine Zn rfl Tryz.underlying43 ?_;refine Zv rfl ?_;refine GT_nil ?_;refine GE_block ?_;refine GE_to (GE_loop (ι := Nat × Items) (fun z => hs.length - z.1) (fun z => [(3, ptr b3 0), (4, ptr b4 0), (5, ptr b5 0), (7, .slice (some ⟨b13, 0, none⟩) hs.length hs.length), (14, .slice A hs.length c), (15, I hs.length), (16, I z.1)]) (fun z => z.2 ++ [(b3, blk [.slice A2 sh.length c2] 113), (b4, blk [.slice A hs.length c] 43), (b5, blk [.bool false] 4)]) (fun z => z.1 ≤ hs.length ∧ Own 1 2 eN (wq hs sh z.1) (.slice (some ⟨b13, 0, none⟩) hs.length hs.length) z.2) ?_ (0, [(b13, blk ((List.replicate hs.length [I 0]).flatten) 2)]) ?_) ⟨rfl, rfl, rfl, rfl, rfl, rfl, rfl, trivial⟩ (HS.chunk (HS.cons rfl (HS.cons rfl (HS.cons rfl HS.nil))))
  · rintro ⟨k, J1⟩ ⟨hk, hO⟩ ih; dsimp only at hk hO ih ⊢
    refine Zp 1 [] rfl ?_;refine GT_S rfl (V_lss rfl rfl rfl) ?_;refine Zz ?_;refine GE_cond rfl (fun q1 => ?_) (fun q1 => ?_)
    · have hkl : k < hs.length := (by omega)
      refine GE_skip ?_;refine GE_seq ?_;refine GE_block ?_;refine Zp 6 [3, 4] rfl ?_;refine Zv rfl ?_;refine GT_S rfl (V_index rfl rfl rfl Tryz.underlying43 sz_2 (k := k) rfl hkl (hr.isSome hkl)) ?_;refine ZL rfl ag_2 (hr.at0 noM hkl rfl) ?_;refine Zb rfl zc_3 fun b8 => ?_;refine ZS [_] [_] rfl rfl sz_3 rfl rfl rfl ?_;refine Zv rfl ?_;refine GT_nil ?_;refine Zq [3, 4, 5, 7, 8, 9, 14, 15, 16] 2 [] rfl rfl ?_;refine GT_S rfl (V_makeFunc rfl rfl rfl) ?_;refine Zv rfl ?_;refine GT_nil ?_;refine Zp 1 [] rfl ?_;refine Zl rfl ag_4 rfl ?_;refine GT_nil ?_;refine GE_cond_f rfl ?_;refine GE_drawn (.st 0 (.st 1 (.st 2 (.st 3 (.ld 4 [0, 1] (.st 5 (.ld 6 [] .nil))))))) [4, 6] (by decide +kernel) ?_;refine Zv rfl ?_;refine Zl rfl ag_3 rfl ?_;refine Zr 2 rfl ?_;refine Zc rfl rn_100 (fun w hw => C_fold (BlkAt.of hw) (BlkAt.of hw) (BlkAt.of hw) (BlkAt.of hw) (hr.sh hw) (hr2.sh hw) hok hkl) (Rv rfl rfl (Rl rfl ag_3 rfl rfl GR_nil)) ?_;refine GT_S rfl (V_index rfl rfl rfl Tryz.underlying43 sz_2 (k := k) rfl hkl rfl) ?_;refine GT_storeOwn (enc := eN) (q := k) (xx := wv hs sh k) rfl rfl rfl rfl rfl rfl rfl sz_2 hO eN_len eN_one (by rw [wq_len hk]; exact hkl) (by decide) (fun _ _ => GR_nil) (fun I3 hO3 => ?_);refine GT_nil ?_;refine GE_inBlock ?_;refine Zs [3, 4, 5, 7, 14, 15, 16] rfl ?_;refine ZP 2 [1] rfl ?_;refine Za rfl (by omega) ?_;refine Zw rfl ?_;refine GT_nil ?_
      exact GE_to (ih (k + 1, I3) ⟨by dsimp only; omega, by dsimp only; rw [← wq_set hkl]; exact hO3⟩ (by dsimp only; omega)) ⟨rfl, rfl, rfl, rfl, rfl, rfl, rfl, trivial⟩ (HS.chunk (HS.cons rfl (HS.cons rfl (HS.cons rfl HS.nil))))
    · obtain rfl : k = hs.length := (by omega); rw [wq_all] at hO
      refine GE_exit rfl ?_;refine Zq [7] 2 [] rfl rfl ?_;refine Zr 2 rfl ?_;refine GT_nil ?_;refine GE_ret Tryz.func84 rfl (fun w hw => ?_)
      exact ⟨(some ⟨b13, 0, none⟩, hs.length, J1), hO, rfl, hw.hs (C := cx Tryz.prog hm 0 0 _ none' fun _ _ => True) HS.last⟩
  · exact ⟨Nat.zero_le _, by have h := Own.made (sz := 1) (e := 2) (enc := eN) (nn := hs.length) (b := b13) (x := 0) (zz := (List.replicate hs.length [I 0]).flatten) rfl (by unfold maxLen; omega); unfold wq; simpa using h⟩
end
end Go.Proofs.YtncleikbggjmjaaGreatDoor.Ply
/- What a tip reads of a groove: both edges, walked. -/
namespace Go.Proofs.YtncleikbggjmjaaGreatDoor.Ply
open Go.Sx Go.Proofs Go.RowKit
open Side (eN eN_len eN_one getD_memT sh_trans eP2 eP2_len eP2_one)
def bq (bk : Int → Int) (l : List Int) (k : Nat) : List Int := (l.take k).map bk ++ l.drop k
theorem bq_len {bk : Int → Int} {l : List Int} {k : Nat} : (bq bk l k).length = l.length := by simp [bq]; omega
theorem bq_get {bk : Int → Int} {l : List Int} {k : Nat} (hk : k < l.length) : (bq bk l k).getD k default = l.getD k default := by
  unfold bq
  have h : ((l.take k).map bk).length = k := by rw [List.length_map, List.length_take]; omega
  rw [List.getD_eq_getElem?_getD, List.getD_eq_getElem?_getD, List.getElem?_append_right (by omega), h, List.getElem?_drop, Nat.sub_self, Nat.add_zero]
theorem bq_set {bk : Int → Int} {l : List Int} {k : Nat} (hk : k < l.length) : (bq bk l k).set k (bk (l.getD k default)) = bq bk l (k + 1) := by
  unfold bq
  have h : ((l.take k).map bk).length = k := by rw [List.length_map, List.length_take]; omega
  rw [List.drop_eq_getElem_cons hk, List.set_append, if_neg (by omega), h, Nat.sub_self, List.set_cons_zero, List.take_succ_eq_append_getElem hk, List.map_append, List.append_assoc]
  simp [List.getD, hk]
theorem bq_all {bk : Int → Int} {l : List Int} : bq bk l l.length = l.map bk := by simp [bq]
theorem map_succ {α β : Type} [Inhabited α] {l : List α} {f : α → β} {k : Nat} (hk : k < l.length) : (l.take (k + 1)).map f = (l.take k).map f ++ [f (l.getD k default)] := by
  rw [List.take_succ_eq_append_getElem hk, List.map_append]; simp [List.getD, hk]
section
variable {w w0 : World} {A A2 : Option Addr} {c c2 g2 g3 gt : Nat} {hs sh : List Int} {P : List (Int × Int)}
theorem C_read1 (hg : BlkAt w gt [.slice A2 sh.length c2] 113) (hr : RdL w 1 eN A hs) (hr2 : RdL w 1 eN A2 sh) (hok : WOk hs sh) : Con Tryz.prog 83 [.slice A hs.length c, ptr gt 0] w (fun y : Option Addr × Nat × Items => Own 1 2 eN (wal hs sh) (.slice y.1 hs.length y.2.1) y.2.2) (fun y => .slice y.1 hs.length y.2.1) (fun y => y.2.2) := by
  refine Ret_of (vs := [_, _]) hm none' Tryz.func83 rfl Tryz.ntmps83 rfl ?_
  dsimp only [slotsOf]
  refine Zp 1 [] rfl ?_;refine Zv rfl ?_;refine GT_nil ?_;refine Zp 4 [2] rfl ?_;refine GT_S rfl (V_loadN (vs := [_]) rfl rfl ag_113 sz_113 rfl (show CellsAt _ _ _ [.slice A2 sh.length c2] from CellsAt.blk hg (noM _))) ?_;refine Zv rfl ?_;refine ZC rfl rn_84 (fun w hw => C_walk (hr.sh hw) (hr2.sh hw) hok) (fun _ _ => GR_nil) (fun y hy => ?_);refine Zv rfl ?_;refine GT_nil ?_;refine GE_ret Tryz.func83 rfl (fun w hw => ?_)
  exact ⟨y, hy, rfl, hw.hs (C := cx Tryz.prog hm 0 0 _ none' fun _ _ => True) HS.last⟩
variable {tE fo fb : Nat} {of : Int × Int → Int} {bk : Int → Int}
set_option maxRecDepth 10000 in
theorem C_walls1 (hmo : methOf Tryz.prog tE "deadwax/play.of" = some (fo, false)) (hmb : methOf Tryz.prog tE "deadwax/play.back" = some (fb, false)) (hag : aggOf Tryz.prog tE = some true) (hro : runs Tryz.prog fo = true) (hrb : runs Tryz.prog fb = true)
    (hof : ∀ w, ∀ p ∈ P, Con0 Tryz.prog fo [.agg #[], .agg #[I p.1, I p.2]] w (I (of p))) (hbk : ∀ w (x : Int), -4194304 ≤ x ∧ x ≤ 4194304 → Con0 Tryz.prog fb [.agg #[], I x] w (I (bk x)))
    (h2 : BlkAt w g2 [.slice A P.length c] 109) (h3 : BlkAt w g3 [.func (.func 83) #[] #[ptr gt 0]] 181) (hg : BlkAt w gt [.slice A2 sh.length c2] 113)
    (hr : RdL w 2 eP2 A P) (hr2 : RdL w 1 eN A2 sh) (hok : WOk (P.map of) sh) :
    Con Tryz.prog 97 [.iface tE (.agg #[]), ptr g2 0, ptr g3 0] w (fun y : Option Addr × Nat × Items => Own 1 2 eN ((wal (P.map of) sh).map bk) (.slice y.1 P.length y.2.1) y.2.2) (fun y => .slice y.1 P.length y.2.1) (fun y => y.2.2) := by
  have hl1 := hok.hl
  rw [List.length_map] at hl1
  have hwl : (wal (P.map of) sh).length = P.length := by rw [wal_len, List.length_map]
  have hml : (P.map of).length = P.length := List.length_map ..
  refine Ret_of (vs := [_, _, _]) hm none' Tryz.func97 rfl Tryz.ntmps97 rfl ?_
  dsimp only [slotsOf]
  refine Zp 1 [] rfl ?_;refine Zv rfl ?_;refine Zz ?_;refine GE_drawn (.st 0 (.st 1 (.st 2 (.st 3 (.st 4 (.st 5 (.st 6 (.st 7 .nil)))))))) [] (by decide +kernel) ?_;refine Zv rfl ?_;refine GT_S rfl (V_nilCheck_iface rfl rfl) ?_;refine GT_S rfl (V_makeFunc rfl rfl rfl) ?_;refine Zv rfl ?_;refine GT_S rfl (V_nilCheck_iface rfl rfl) ?_;refine GT_S rfl (V_makeFunc rfl rfl rfl) ?_;refine Zr 2 rfl ?_;refine GT_nil ?_;refine Zq [1, 2, 5, 6] 1 [] rfl rfl ?_;refine Zv rfl ?_;refine Zz ?_;refine Zp 3 [] rfl ?_;refine ZL rfl ag_109 (CellAt.old (h2.cell rfl) (noM _)) ?_;refine Zn rfl Tryz.underlying109 ?_;refine Zv rfl ?_;refine GT_nil ?_;refine GE_block ?_;refine GE_to (GE_loop (ι := Nat × (Option Addr × Nat × Items)) (fun z => P.length - z.1) (fun z => [(2, ptr g3 0), (5, .func (.method "deadwax/play.of") #[.iface tE (.agg #[])] #[]), (6, .func (.method "deadwax/play.back") #[.iface tE (.agg #[])] #[]), (7, .slice z.2.1 ((P.take z.1).map of).length z.2.2.1), (17, .slice A P.length c), (18, I P.length), (19, I z.1)]) (fun z => z.2.2.2) (fun z => z.1 ≤ P.length ∧ Own 1 2 eN ((P.take z.1).map of) (.slice z.2.1 ((P.take z.1).map of).length z.2.2.1) z.2.2.2) ?_ (0, (none, 0, [])) ?_) ⟨rfl, rfl, rfl, rfl, rfl, rfl, rfl, trivial⟩ HS.nil
  · rintro ⟨k, y⟩ ⟨hk, hO⟩ ih; dsimp only at hk hO ih ⊢
    refine Zp 1 [] rfl ?_;refine GT_S rfl (V_lss rfl rfl rfl) ?_;refine Zz ?_;refine GE_cond rfl (fun q1 => ?_) (fun q1 => ?_)
    · have hkl : k < P.length := (by omega); have htl : ((P.take k).map of).length = k := (by rw [List.length_map, List.length_take]; omega)
      refine GE_skip ?_;refine GE_seq ?_;refine GE_block ?_;refine Zp 4 [2, 3] rfl ?_;refine GT_S rfl (V_index rfl rfl rfl Tryz.underlying109 sz_115 (k := k) rfl hkl (hr.isSome hkl)) ?_;refine GT_S rfl (V_loadN (vs := [_, _]) rfl rfl ag_115 sz_115 rfl (show CellsAt _ _ _ (eP2 (P.getD k default)) from hr.ats noM hkl)) ?_;refine Zb rfl zc_115 fun b9 => ?_;refine ZS [_, _] [_, _] rfl rfl sz_115 rfl rfl rfl ?_;refine GT_nil ?_;refine ZP 7 [3, 4, 5, 6] rfl ?_;refine Zr 2 rfl ?_;refine ZN [_, _] rfl ag_115 sz_115 rfl rfl ?_;refine GT_callM (t := tE) (fi := fo) rfl rfl rfl rfl rfl rfl rfl rfl hmo hag hro (fun w hw => hof w _ (getD_memT hkl)) GR_nil ?_;refine GT_buildSlice (z := [_]) rfl rfl rfl rfl rfl Tryz.underlying43 zc_2 sz_2 (by decide) rfl rfl (fun _ => GR_nil) (fun b27 => ?_);refine GT_append (enc := eN) (l := (P.take k).map of) (m := [of (P.getD k default)]) rfl rfl rfl rfl rfl rfl rfl hO (fun w m => RdL.own' m eN_len) Tryz.underlying43 zc_2 sz_2 ⟨rfl, by decide⟩ by_2 ⟨by rw [htl]; simp only [List.length_singleton]; omega, by rw [htl]; simp only [List.length_singleton]; omega⟩ eN_len eN_one (fun _ _ _ _ => GR_nil) (fun A3 c3 I3 hO3 => ?_);refine Zw rfl ?_;refine GT_nil ?_;refine GE_inBlock ?_;refine Zs [2, 5, 6, 7, 17, 18, 19] rfl ?_;refine ZP 2 [1] rfl ?_;refine Za rfl (by omega) ?_;refine Zw rfl ?_;refine GT_nil ?_
      exact GE_to (ih (k + 1, (A3, c3, I3)) ⟨by dsimp only; omega, by dsimp only; rw [map_succ hkl]; exact hO3⟩ (by dsimp only; omega)) ⟨rfl, rfl, rfl, by dsimp only; rw [map_succ hkl]; rfl, rfl, rfl, rfl, trivial⟩ HS.last
    · obtain rfl : k = P.length := (by omega); rw [List.take_length] at hO ⊢
      refine GE_exit rfl ?_;refine Zq [2, 6, 7] 4 [2, 3] rfl rfl ?_;refine ZL rfl ag_181 (CellAt.old (h3.cell rfl) (noM _)) ?_;refine Zv rfl ?_;refine ZC rfl rn_83 (fun w hw => C_read1 (hg.sh hw) (hO.rdH eN_len hw) (hr2.sh hw) hok) (fun _ _ => GR_nil) (fun v hv => ?_);refine Zw rfl ?_;refine Zz ?_;refine Zq [6, 7] 3 [] rfl rfl ?_;refine Zv rfl ?_;refine Zn rfl Tryz.underlying43 ?_;refine Zv rfl ?_;refine GT_nil ?_;refine GE_block ?_;refine GE_to (GE_loop (ι := Nat × Items) (fun z => P.length - z.1) (fun z => [(6, .func (.method "deadwax/play.back") #[.iface tE (.agg #[])] #[]), (7, .slice v.1 (P.map of).length v.2.1), (34, I (P.map of).length), (35, I z.1)]) (fun z => z.2) (fun z => z.1 ≤ P.length ∧ Own 1 2 eN (bq bk (wal (P.map of) sh) z.1) (.slice v.1 (P.map of).length v.2.1) z.2) ?_ (0, v.2.2) ?_) ⟨rfl, rfl, rfl, rfl, trivial⟩ HS.last
      · rintro ⟨k, J1⟩ ⟨hk, hO2⟩ ih; dsimp only at hk hO2 ih ⊢
        refine Zp 1 [] rfl ?_;refine GT_S rfl (V_lss rfl rfl rfl) ?_;refine Zz ?_;refine GE_cond rfl (fun q2 => ?_) (fun q2 => ?_)
        · have hkl : k < P.length := (by omega); have hwb := wal_bd hok _ (getD_memT (l := wal (P.map of) sh) (i := k) (by omega))
          refine GE_skip ?_;refine GE_seq ?_;refine GE_block ?_;refine Zp 2 [] rfl ?_;refine Zr 2 rfl ?_;refine GT_nil ?_;refine ZP 10 [7, 9] rfl ?_;refine Zr 5 rfl ?_;refine GT_S rfl (V_index rfl rfl rfl Tryz.underlying43 sz_2 (k := k) rfl (by omega) (hO2.isSome (k := k) (by rw [bq_len]; omega))) ?_;refine ZL rfl ag_2 (CellAt.own0 (k := k) hO2 eN_len (by rw [bq_len]; omega) (by rw [bq_get (by omega)]; rfl)) ?_;refine GT_callM (t := tE) (fi := fb) rfl rfl rfl rfl rfl rfl rfl rfl hmb hag hrb (fun w hw => hbk w _ hwb) GR_nil ?_;refine GT_S rfl (V_index rfl rfl rfl Tryz.underlying43 sz_2 (k := k) rfl (by omega) (hO2.isSome (k := k) (by rw [bq_len]; omega))) ?_;refine GT_storeOwn (enc := eN) (q := k) (xx := bk ((wal (P.map of) sh).getD k default)) rfl rfl rfl rfl rfl rfl rfl sz_2 hO2 eN_len eN_one (by rw [bq_len]; omega) (by decide) (fun _ _ => GR_nil) (fun I4 hO4 => ?_);refine GT_nil ?_;refine GE_inBlock ?_;refine Zs [6, 7, 34, 35] rfl ?_;refine ZP 2 [1] rfl ?_;refine Za rfl (by omega) ?_;refine Zw rfl ?_;refine GT_nil ?_
          exact GE_to (ih (k + 1, I4) ⟨by dsimp only; omega, by dsimp only; rw [← bq_set (by omega)]; exact hO4⟩ (by dsimp only; omega)) ⟨rfl, rfl, rfl, rfl, trivial⟩ HS.last
        · obtain rfl : k = P.length := (by omega); rw [← hwl, bq_all, hml] at hO2; rw [hml]
          refine GE_exit rfl ?_;refine Zq [7] 2 [] rfl rfl ?_;refine Zr 2 rfl ?_;refine GT_nil ?_;refine GE_ret Tryz.func97 rfl (fun w hw => ?_)
          exact ⟨(v.1, v.2.1, J1), hO2, rfl, hw.hs (C := cx Tryz.prog hm 0 0 _ none' fun _ _ => True) HS.last⟩
      · exact ⟨Nat.zero_le _, hv⟩
  · exact ⟨Nat.zero_le _, Own.nil⟩
end
end Go.Proofs.YtncleikbggjmjaaGreatDoor.Ply
/- The arm of the example's groove, walked. -/
namespace Go.Proofs.YtncleikbggjmjaaGreatDoor.Ply
open Go.Sx Go.Proofs Go.RowKit
open Side (eN eN_len eN_one getD_memT sh_trans eP2 eP2_len eP2_one)
def p6 : List (Int × Int) := [(-100, 100), (-100, 90), (-95, 100)]
theorem p6_bd {k : Nat} (hk : k < 3) : (-4194304 ≤ (p6.getD k default).1 ∧ (p6.getD k default).1 ≤ 4194304) ∧ (-4194304 ≤ (p6.getD k default).2 ∧ (p6.getD k default).2 ≤ 4194304) := by
  rcases (show k = 0 ∨ k = 1 ∨ k = 2 by omega) with rfl | rfl | rfl <;> decide
section
variable {w : World} {A : Option Addr} {c : Nat} {l : List Int}
theorem C_CheckPts (h : RdL w 2 eP2 A p6) : Con0 Tryz.prog 81 [.slice A 3 c] w (I 0) := by
  refine Ret_of (vs := [_]) hm none' Tryz.func81 rfl Tryz.ntmps81 rfl ?_
  dsimp only [slotsOf]
  refine Zp 1 [] rfl ?_;refine Zv rfl ?_;refine Zz ?_;refine Zp 3 [] rfl ?_;refine Zv rfl ?_;refine Zn rfl Tryz.underlying109 ?_;refine GT_S rfl (V_isF (V_gtr rfl rfl rfl) (by decide)) ?_;refine GT_nil ?_;refine GE_cond_f rfl ?_;refine GE_skip ?_;refine GE_seq ?_;refine Zq [0] 3 [] rfl rfl ?_;refine Zv rfl ?_;refine Zn rfl Tryz.underlying109 ?_;refine Zv rfl ?_;refine GT_nil ?_;refine GE_block ?_;refine GE_to (GE_loop (ι := Nat) (fun k => 3 - k) (fun k => [(8, .slice A 3 c), (9, I 3), (10, I k)]) (fun k => []) (fun k => k ≤ 3) ?_ 0 ?_) ⟨rfl, rfl, rfl, trivial⟩ HS.nil
  · intro k hk ih
    refine Zp 1 [] rfl ?_;refine GT_S rfl (V_lss rfl rfl rfl) ?_;refine Zz ?_;refine GE_cond rfl (fun q1 => ?_) (fun q1 => ?_)
    · have hk3 : k < 3 := (by omega); have hkl : k < p6.length := hk3; have hbd := p6_bd hk3
      refine GE_skip ?_;refine GE_seq ?_;refine GE_block ?_;refine Zp 4 [2, 3] rfl ?_;refine GT_S rfl (V_index rfl rfl rfl Tryz.underlying109 sz_115 (k := k) rfl hk3 (h.isSome hkl)) ?_;refine GT_S rfl (V_loadN (vs := [_, _]) rfl rfl ag_115 sz_115 rfl (show CellsAt _ _ _ (eP2 (p6.getD k default)) from h.ats noM hkl)) ?_;refine Zb rfl zc_115 fun b4 => ?_;refine ZS [_, _] [_, _] rfl rfl sz_115 rfl rfl rfl ?_;refine GT_nil ?_;refine Zp 3 [1] rfl ?_;refine ZN [_, _] rfl ag_115 sz_115 rfl rfl ?_;refine Zc rfl rn_96 (fun w hw => Side.C_edged (p := p6.getD k default) hbd.1 hbd.2) GR_nil ?_;refine GT_S rfl (V_notB rfl rfl) ?_;refine GT_nil ?_;refine GE_cond_f rfl ?_;refine GE_skip ?_;refine GE_inBlock ?_;refine Zs [8, 9, 10] rfl ?_;refine ZP 2 [1] rfl ?_;refine Za rfl (by omega) ?_;refine Zw rfl ?_;refine GT_nil ?_
      exact GE_to (ih (k + 1) (by omega) (by omega)) ⟨rfl, rfl, rfl, trivial⟩ HS.nil
    · refine GE_exit rfl ?_;refine Zq [] 1 [] rfl rfl ?_;refine Zv rfl ?_;refine GT_nil ?_;refine GE_ret Tryz.func81 rfl (fun w hw => ⟨?_, hw.nil⟩)
      rfl
  · exact Nat.zero_le _
end
end Go.Proofs.YtncleikbggjmjaaGreatDoor.Ply
/- What a tip reads of a groove, walked; the example. -/
namespace Go.Proofs.YtncleikbggjmjaaGreatDoor.Ply
open Go.Sx Go.Proofs Go.RowKit
open Side (eN eN_len eN_one getD_memT sh_trans eP2 eP2_len eP2_one)
def ofO (p : Int × Int) : Int := p.2
def ofI (p : Int × Int) : Int := -p.1
def bkO (n : Int) : Int := n
def bkI (n : Int) : Int := -n
def rO (P : List (Int × Int)) (sh : List Int) : List Int := (wal (P.map ofO) sh).map bkO
def rI (P : List (Int × Int)) (sh : List Int) : List Int := (wal (P.map ofI) sh).map bkI
def rdi (P : List (Int × Int)) (sh : List Int) (i : Nat) : Int × Int := ((rI P sh).getD i default, (rO P sh).getD i default)
def rd (P : List (Int × Int)) (sh : List Int) : List (Int × Int) := (List.range P.length).map (rdi P sh)
def PtsOk (P : List (Int × Int)) : Prop := P.length ≤ 1000 ∧ ∀ p ∈ P, (-4194304 ≤ p.1 ∧ p.1 ≤ 4194304) ∧ -4194304 ≤ p.2 ∧ p.2 ≤ 4194304
def ShOk (sh : List Int) : Prop := (1 ≤ sh.length ∧ sh.length ≤ 64) ∧ ∀ x ∈ sh, 0 ≤ x ∧ x ≤ 4194304
theorem wok_O {P : List (Int × Int)} {sh : List Int} (h : PtsOk P) (hs : ShOk sh) : WOk (P.map ofO) sh :=
  ⟨by rw [List.length_map]; exact h.1, hs.1, fun x hx => by obtain ⟨p, hp, rfl⟩ := List.mem_map.1 hx; exact (h.2 p hp).2, hs.2⟩
theorem wok_I {P : List (Int × Int)} {sh : List Int} (h : PtsOk P) (hs : ShOk sh) : WOk (P.map ofI) sh :=
  ⟨by rw [List.length_map]; exact h.1, hs.1, fun x hx => by obtain ⟨p, hp, rfl⟩ := List.mem_map.1 hx; have := (h.2 p hp).1; unfold ofI; omega, hs.2⟩
section
variable {w : World} {A A2 : Option Addr} {c c2 gt : Nat} {sh : List Int} {P : List (Int × Int)}
theorem C_oof {p : Int × Int} : Con0 Tryz.prog 213 [.agg #[], .agg #[I p.1, I p.2]] w (I (ofO p)) := by
  refine Ret_of (vs := [_, _]) hm none' Tryz.func213 rfl Tryz.ntmps213 rfl ?_
  dsimp only [slotsOf]
  refine Zp 3 [0, 1] rfl ?_;refine Zx [] rfl rfl fun b2 => ?_;refine Zx [_, _] rfl rfl fun b3 => ?_;refine Zv rfl ?_;refine GT_nil ?_;refine Zq [3] 3 [] rfl rfl ?_;refine Zg rfl fo_115_1 rfl ag_2 rfl ?_;refine Zv rfl ?_;refine GT_nil ?_;refine GE_ret Tryz.func213 rfl (fun w hw => ⟨?_, hw.nil⟩)
  rfl
theorem C_obk {x : Int} : Con0 Tryz.prog 212 [.agg #[], I x] w (I (bkO x)) := by
  refine Ret_of (vs := [_, _]) hm none' Tryz.func212 rfl Tryz.ntmps212 rfl ?_
  dsimp only [slotsOf]
  refine Zp 2 [0] rfl ?_;refine Zx [] rfl rfl fun b2 => ?_;refine Zv rfl ?_;refine GT_nil ?_;refine Zp 2 [] rfl ?_;refine Zr 2 rfl ?_;refine GT_nil ?_;refine GE_ret Tryz.func212 rfl (fun w hw => ⟨?_, hw.nil⟩)
  rfl
theorem C_iof {p : Int × Int} (h : -4194304 ≤ p.1 ∧ p.1 ≤ 4194304) : Con0 Tryz.prog 215 [.agg #[], .agg #[I p.1, I p.2]] w (I (ofI p)) := by
  refine Ret_of (vs := [_, _]) hm none' Tryz.func215 rfl Tryz.ntmps215 rfl ?_
  dsimp only [slotsOf]
  refine Zp 3 [0, 1] rfl ?_;refine Zx [] rfl rfl fun b2 => ?_;refine Zx [_, _] rfl rfl fun b3 => ?_;refine Zv rfl ?_;refine GT_nil ?_;refine Zq [3] 4 [] rfl rfl ?_;refine Zg rfl fo_115_0 rfl ag_2 rfl ?_;refine GT_S rfl (V_neg rfl rfl (wrap_i64 (by omega))) ?_;refine Zv rfl ?_;refine GT_nil ?_;refine GE_ret Tryz.func215 rfl (fun w hw => ⟨?_, hw.nil⟩)
  refine congrArg I ?_;unfold ofI;omega
theorem C_ibk {x : Int} (h : -4194304 ≤ x ∧ x ≤ 4194304) : Con0 Tryz.prog 214 [.agg #[], I x] w (I (bkI x)) := by
  refine Ret_of (vs := [_, _]) hm none' Tryz.func214 rfl Tryz.ntmps214 rfl ?_
  dsimp only [slotsOf]
  refine Zp 2 [0] rfl ?_;refine Zx [] rfl rfl fun b2 => ?_;refine Zv rfl ?_;refine GT_nil ?_;refine Zp 3 [] rfl ?_;refine Zv rfl ?_;refine GT_S rfl (V_neg rfl rfl (wrap_i64 (by omega))) ?_;refine Zv rfl ?_;refine GT_nil ?_;refine GE_ret Tryz.func214 rfl (fun w hw => ⟨?_, hw.nil⟩)
  refine congrArg I ?_;unfold bkI;omega
set_option maxRecDepth 10000 in
theorem C_walls (hg : BlkAt w gt [.slice A2 sh.length c2] 113) (hr : RdL w 2 eP2 A P) (hr2 : RdL w 1 eN A2 sh) (hP : PtsOk P) (hS : ShOk sh) : Con Tryz.prog 82 [.slice A P.length c, .func (.func 83) #[] #[ptr gt 0]] w (fun y : Option Addr × Nat × Items => Own 2 115 eP2 (rd P sh) (.slice y.1 (rd P sh).length y.2.1) y.2.2)
    (fun y => .slice y.1 (rd P sh).length y.2.1) (fun y => y.2.2) := by
  have hpl := hP.1
  have hIl : (rI P sh).length = P.length := by unfold rI; rw [List.length_map, wal_len, List.length_map]
  have hOl : (rO P sh).length = P.length := by unfold rO; rw [List.length_map, wal_len, List.length_map]
  refine Ret_of (vs := [_, _]) hm none' Tryz.func82 rfl Tryz.ntmps82 rfl ?_
  dsimp only [slotsOf]
  refine Zp 3 [0, 1] rfl ?_;refine Zx [_] rfl rfl fun b2 => ?_;refine Zx [_] rfl rfl fun b3 => ?_;refine Zv rfl ?_;refine GT_nil ?_;refine Zp 2 [] rfl ?_;refine GT_S rfl (V_makeFunc rfl rfl rfl) ?_;refine Zv rfl ?_;refine GT_nil ?_;refine Zq [2, 5] 10 [3, 7] rfl rfl ?_;refine Zv rfl ?_;refine GT_S rfl (V_build (vs := []) rfl rfl zc_221 pl_221 sa_221 rfl) ?_;refine GT_S rfl (V_mkIface rfl rfl ag_221) ?_;refine ZC rfl rn_97 (fun w hw => C_walls1 (P := P) (tE := 221) (fo := 213) (fb := 212) (of := ofO) (bk := bkO) (by kernel_rfl) (by kernel_rfl) ag_221 rn_213 rn_212 (fun w p hp => C_oof) (fun w x hx => C_obk) (BlkAt.of hw) (BlkAt.of hw) (hg.sh hw) (hr.sh hw) (hr2.sh hw) (wok_O hP hS)) (fun _ _ => GR_nil) (fun y hy => ?_);refine Zv rfl ?_;refine GT_S rfl (V_build (vs := []) rfl rfl zc_222 pl_222 sa_222 rfl) ?_;refine GT_S rfl (V_mkIface rfl rfl ag_222) ?_;refine ZC rfl rn_97 (fun w hw => C_walls1 (P := P) (tE := 222) (fo := 215) (fb := 214) (of := ofI) (bk := bkI) (by kernel_rfl) (by kernel_rfl) ag_222 rn_215 rn_214 (fun w p hp => C_iof (hP.2 p hp).1) (fun w x hx => C_ibk hx) (BlkAt.of hw) (BlkAt.of hw) (hg.sh hw) (hr.sh hw) (hr2.sh hw) (wok_I hP hS)) (fun _ _ => GR_nil) (fun z hz => ?_);refine Zr 2 rfl ?_;refine Zz ?_;refine Zs [2, 6, 7] rfl ?_
  have hy : Own 1 2 eN (rO P sh) (.slice y.1 P.length y.2.1) y.2.2 := hy; have hz : Own 1 2 eN (rI P sh) (.slice z.1 P.length z.2.1) z.2.2 := hz
  refine ZP 1 [] rfl ?_;refine Zv rfl ?_;refine Zz ?_;refine Zp 3 [] rfl ?_;refine Zl rfl ag_109 rfl ?_;refine Zn rfl Tryz.underlying109 ?_;refine Zv rfl ?_;refine GT_nil ?_;refine GE_block ?_;refine GE_to (GE_loop (ι := Nat × (Option Addr × Nat × Items)) (fun v => P.length - v.1) (fun v => [(6, .slice y.1 P.length y.2.1), (7, .slice z.1 P.length z.2.1), (8, .slice v.2.1 ((List.range v.1).map (rdi P sh)).length v.2.2.1), (20, I P.length), (21, I v.1)]) (fun v => v.2.2.2 ++ (y.2.2 ++ z.2.2)) (fun v => v.1 ≤ P.length ∧ Own 2 115 eP2 ((List.range v.1).map (rdi P sh)) (.slice v.2.1 ((List.range v.1).map (rdi P sh)).length v.2.2.1) v.2.2.2) ?_ (0, (none, 0, [])) ?_) ⟨rfl, rfl, rfl, rfl, rfl, trivial⟩ (HS.chunk (I := []) (HS.chunk HS.last))
  · rintro ⟨k, u⟩ ⟨hk, hO⟩ ih; dsimp only at hk hO ih ⊢
    refine Zp 1 [] rfl ?_;refine GT_S rfl (V_lss rfl rfl rfl) ?_;refine Zz ?_;refine GE_cond rfl (fun q1 => ?_) (fun q1 => ?_)
    · have hkl : k < P.length := (by omega); have hrl : ((List.range k).map (rdi P sh)).length = k := (by simp)
      refine GE_skip ?_;refine GE_seq ?_;refine GE_block ?_;refine Zp 2 [] rfl ?_;refine Zr 2 rfl ?_;refine GT_nil ?_;refine GE_drawn (.st 0 (.st 1 (.st 2 (.st 3 (.st 4 (.st 5 (.st 6 (.st 7 (.st 8 (.st 9 (.ld 10 [0] (.ld 11 [] (.ld 12 [] .nil))))))))))))) [10, 11, 12] (by decide +kernel) ?_;refine Zr 3 rfl ?_;refine GT_S rfl (V_index rfl rfl rfl Tryz.underlying43 sz_2 (k := k) rfl hkl (hz.isSome (k := k) (by omega))) ?_;refine ZL rfl ag_2 (CellAt.own0 (k := k) hz eN_len (by omega) rfl) ?_;refine Zr 2 rfl ?_;refine GT_S rfl (V_index rfl rfl rfl Tryz.underlying43 sz_2 (k := k) rfl hkl (hy.isSome (k := k) (by omega))) ?_;refine ZL rfl ag_2 (CellAt.own0 (k := k) hy eN_len (by omega) rfl) ?_;refine GT_S rfl (V_build (vs := [_, _]) rfl rfl zc_115 pl_115 sa_115 rfl) ?_;refine GT_buildSlice (z := [_, _]) rfl rfl rfl rfl rfl Tryz.underlying109 zc_115 sz_115 (by decide) rfl rfl (fun _ => Rv rfl rfl GR_nil) (fun b34 => ?_);refine GT_append (enc := eP2) (l := (List.range k).map (rdi P sh)) (m := [rdi P sh k]) rfl rfl rfl rfl rfl rfl rfl hO (fun w m => RdL.own' m eP2_len) Tryz.underlying109 zc_115 sz_115 ⟨rfl, by decide⟩ by_115 ⟨by rw [hrl]; simp only [List.length_singleton]; omega, by rw [hrl]; simp only [List.length_singleton]; omega⟩ eP2_len eP2_one (fun _ _ _ _ => GR_nil) (fun A3 c3 I3 hO3 => ?_);refine Zw rfl ?_;refine GT_nil ?_;refine GE_inBlock ?_;refine Zs [6, 7, 8, 20, 21] rfl ?_;refine ZP 2 [1] rfl ?_;refine Za rfl (by omega) ?_;refine Zw rfl ?_;refine GT_nil ?_
      exact GE_to (ih (k + 1, (A3, c3, I3)) ⟨by dsimp only; omega, by dsimp only; rw [List.range_succ, List.map_append]; exact hO3⟩ (by dsimp only; omega)) ⟨rfl, rfl, by dsimp only; rw [List.range_succ, List.map_append]; rfl, rfl, rfl, trivial⟩ (HS.chunk (HS.chunk HS.last))
    · obtain rfl : k = P.length := (by omega)
      refine GE_exit rfl ?_;refine Zq [8] 2 [] rfl rfl ?_;refine Zr 2 rfl ?_;refine GT_nil ?_;refine GE_ret Tryz.func82 rfl (fun w hw => ?_)
      exact ⟨u, hO, rfl, hw.hs (C := cx Tryz.prog hm 0 0 _ none' fun _ _ => True) HS.last⟩
  · exact ⟨Nat.zero_le _, Own.nil⟩
end
end Go.Proofs.YtncleikbggjmjaaGreatDoor.Ply
/- Read, on the example, walked. -/
namespace Go.Proofs.YtncleikbggjmjaaGreatDoor.Ply
open Go.Sx Go.Proofs Go.RowKit
open Side (eN eN_len eN_one getD_memT sh_trans eP2 eP2_len eP2_one)
def s6 : List Int := [0, 2, 10]
def r6 : List (Int × Int) := [(-100, 92), (-97, 90), (-95, 92)]
theorem rd6 : rd p6 s6 = r6 := by kernel_rfl
theorem p6_ok : PtsOk p6 := ⟨by decide, fun p hp => by simp only [p6, List.mem_cons, List.not_mem_nil, or_false] at hp; rcases hp with rfl | rfl | rfl <;> decide⟩
theorem s6_ok : ShOk s6 := ⟨by decide, fun p hp => by simp only [s6, List.mem_cons, List.not_mem_nil, or_false] at hp; rcases hp with rfl | rfl | rfl <;> decide⟩
section
variable {w : World} {A A2 : Option Addr} {c c2 gt : Nat} {sh : List Int} {P : List (Int × Int)}
theorem C_read (hr : RdL w 2 eP2 A P) (hr2 : RdL w 1 eN A2 sh) (hP : PtsOk P) (hS : ShOk sh) : Con Tryz.prog 60 [.agg #[.slice A2 sh.length c2], .slice A P.length c] w (fun y : Option Addr × Nat × Items => Own 2 115 eP2 (rd P sh) (.slice y.1 (rd P sh).length y.2.1) y.2.2)
    (fun y => .slice y.1 (rd P sh).length y.2.1) (fun y => y.2.2) := by
  refine Ret_of (vs := [_, _]) hm none' Tryz.func60 rfl Tryz.ntmps60 rfl ?_
  dsimp only [slotsOf]
  refine Zp 2 [0] rfl ?_;refine Zx [_] rfl rfl fun b2 => ?_;refine Zv rfl ?_;refine GT_nil ?_;refine Zp 4 [2] rfl ?_;refine Zv rfl ?_;refine GT_S rfl (V_makeFunc rfl rfl rfl) ?_;refine ZC rfl rn_82 (fun w hw => C_walls (BlkAt.of hw) (hr.sh hw) (hr2.sh hw) hP hS) (fun _ _ => GR_nil) (fun y hy => ?_);refine Zv rfl ?_;refine GT_nil ?_;refine GE_ret Tryz.func60 rfl (fun w hw => ?_)
  exact ⟨y, hy, rfl, hw.hs (C := cx Tryz.prog hm 0 0 _ none' fun _ _ => True) HS.last⟩
theorem s6_at {k : Nat} (hk : k < 3) : (0 ≤ s6.getD k default ∧ s6.getD k default ≤ 4194304) ∧ (k = 0 → s6.getD k default = 0) ∧ (0 < k → s6.getD (k - 1) default ≤ s6.getD k default) := by
  rcases (show k = 0 ∨ k = 1 ∨ k = 2 by omega) with rfl | rfl | rfl <;> decide
theorem C_CheckTip6 (hr : RdL w 1 eN A2 s6) : Con0 Tryz.prog 80 [.agg #[.slice A2 3 c2]] w (I 0) := by
  refine Ret_of (vs := [_]) hm none' Tryz.func80 rfl Tryz.ntmps80 rfl ?_
  dsimp only [slotsOf]
  refine Zp 2 [0] rfl ?_;refine Zx [_] rfl rfl fun b1 => ?_;refine Zv rfl ?_;refine Zz ?_;refine Zp 10 [] rfl ?_;refine Zg rfl fo_113_0 rfl ag_43 rfl ?_;refine Zn rfl Tryz.underlying43 ?_;refine GT_S rfl (V_isF (V_eql rfl rfl rfl) (by decide)) ?_;refine Zv rfl ?_;refine Zg rfl fo_113_0 rfl ag_43 rfl ?_;refine Zn rfl Tryz.underlying43 ?_;refine GT_S rfl (V_isF (V_gtr rfl rfl rfl) (by decide)) ?_;refine Zv rfl ?_;refine GT_nil ?_;refine GE_cond_f rfl ?_;refine GE_skip ?_;refine Zq [1] 1 [] rfl rfl ?_;refine Zv rfl ?_;refine Zz ?_;refine Zp 4 [] rfl ?_;refine Zg rfl fo_113_0 rfl ag_43 rfl ?_;refine Zn rfl Tryz.underlying43 ?_;refine Zv rfl ?_;refine GT_nil ?_;refine GE_block ?_;refine GE_to (GE_loop (ι := Nat) (fun k => 3 - k) (fun k => [(3, I (if k = 0 then 0 else s6.getD (k - 1) default)), (17, .slice A2 3 c2), (18, I 3), (19, I k)]) (fun k => []) (fun k => k ≤ 3) ?_ 0 ?_) ⟨rfl, rfl, rfl, rfl, trivial⟩ HS.nil
  · intro k hk ih
    refine Zp 1 [] rfl ?_;refine GT_S rfl (V_lss rfl rfl rfl) ?_;refine Zz ?_;refine GE_cond rfl (fun q1 => ?_) (fun q1 => ?_)
    · have hk3 : k < 3 := (by omega); have hkl : k < s6.length := hk3; obtain ⟨hs1, hs2, hs3⟩ := s6_at hk3
      refine GE_skip ?_;refine GE_seq ?_;refine GE_block ?_;refine Zp 5 [] rfl ?_;refine Zv rfl ?_;refine GT_S rfl (V_index rfl rfl rfl Tryz.underlying43 sz_2 (k := k) rfl hk3 (hr.isSome hkl)) ?_;refine ZL rfl ag_2 (hr.at0 noM hkl rfl) ?_;refine Zr 2 rfl ?_;refine Zz ?_;refine Zq [3, 4, 5, 17, 18, 19] 15 [] rfl rfl ?_;refine Zr 2 rfl ?_;refine GT_S rfl (V_isF (V_lss rfl rfl rfl) (by split; omega; rename_i e; have := hs3 (by omega); omega)) ?_;refine Zr 2 rfl ?_;refine GT_S rfl (V_isF (V_gtr rfl rfl rfl) (by omega)) ?_;refine Zr 3 rfl ?_;refine GT_S rfl (V_eql rfl rfl rfl) ?_;refine Zv rfl ?_;refine GT_split (d := 34) rfl (fun q2 => ?_) (fun q2 => ?_)
      · refine Zv rfl ?_;refine GT_S rfl (V_isF (V_neq rfl rfl rfl) (by have := hs2 (by omega); omega)) ?_;refine Zr 2 rfl ?_;refine GT_nil ?_;refine GE_cond_f rfl ?_;refine GE_skip ?_;refine Zs [5, 17, 18, 19, 28, 29, 32, 33, 34, 35, 36, 37] rfl ?_;refine ZP 2 [] rfl ?_;refine Zr 2 rfl ?_;refine GT_nil ?_;refine GE_inBlock ?_;refine ZP 2 [1] rfl ?_;refine Za rfl (by omega) ?_;refine Zw rfl ?_;refine GT_nil ?_
        exact GE_to (ih (k + 1) (by omega) (by omega)) ⟨rfl, rfl, rfl, rfl, trivial⟩ HS.nil
      · refine Zr 4 rfl ?_;refine GT_nil ?_;refine GE_cond_f rfl ?_;refine GE_skip ?_;refine Zs [5, 17, 18, 19, 28, 29, 32, 33, 34, 35, 36, 37] rfl ?_;refine ZP 2 [] rfl ?_;refine Zr 2 rfl ?_;refine GT_nil ?_;refine GE_inBlock ?_;refine ZP 2 [1] rfl ?_;refine Za rfl (by omega) ?_;refine Zw rfl ?_;refine GT_nil ?_
        exact GE_to (ih (k + 1) (by omega) (by omega)) ⟨rfl, rfl, rfl, rfl, trivial⟩ HS.nil
    · refine GE_exit rfl ?_;refine Zq [] 1 [] rfl rfl ?_;refine Zv rfl ?_;refine GT_nil ?_;refine GE_ret Tryz.func80 rfl (fun w hw => ⟨?_, hw.nil⟩)
      rfl
  · exact Nat.zero_le _
theorem C_check6 (hr2 : RdL w 1 eN A2 s6) (hr : RdL w 2 eP2 A p6) : Con0 Tryz.prog 59 [.agg #[.slice A2 3 c2], .slice A 3 c] w (I 0) := by
  refine Ret_of (vs := [_, _]) hm none' Tryz.func59 rfl Tryz.ntmps59 rfl ?_
  dsimp only [slotsOf]
  refine Zp 2 [0] rfl ?_;refine Zx [_] rfl rfl fun b2 => ?_;refine Zv rfl ?_;refine Zz ?_;refine Zp 3 [1] rfl ?_;refine ZN [_] rfl ag_113 sz_113 rfl rfl ?_;refine Zc rfl rn_80 (fun w hw => C_CheckTip6 (hr2.sh hw)) GR_nil ?_;refine Zv rfl ?_;refine GT_nil ?_;refine Zq [1, 5] 2 [] rfl rfl ?_;refine Zv rfl ?_;refine GT_S rfl (V_isF (V_neq rfl rfl rfl) (fun q => q rfl)) ?_;refine GT_nil ?_;refine GE_cond_f rfl ?_;refine GE_skip ?_;refine Zp 3 [1] rfl ?_;refine Zv rfl ?_;refine Zc rfl rn_81 (fun w hw => C_CheckPts (hr.sh hw)) GR_nil ?_;refine Zv rfl ?_;refine GT_nil ?_;refine GE_ret Tryz.func59 rfl (fun w hw => ⟨?_, hw.nil⟩)
  rfl
theorem C_read6 (hr : RdL w 2 eP2 A p6) (hr2 : RdL w 1 eN A2 s6) : Con Tryz.prog 60 [.agg #[.slice A2 3 c2], .slice A 3 c] w (fun y : Option Addr × Nat × Items => Own 2 115 eP2 r6 (.slice y.1 3 y.2.1) y.2.2) (fun y => .slice y.1 3 y.2.1) (fun y => y.2.2) := by
  have h := C_read (c := c) (c2 := c2) hr hr2 p6_ok s6_ok
  rw [rd6] at h
  exact h
theorem C_Read6 (hr : RdL w 2 eP2 A p6) (hr2 : RdL w 1 eN A2 s6) : Con Tryz.prog 37 [.agg #[.slice A2 3 c2], .slice A 3 c] w (fun y : Option Addr × Nat × Items => Own 2 115 eP2 r6 (.slice y.1 3 y.2.1) y.2.2) (fun y => .tuple #[.slice y.1 3 y.2.1, I 0]) (fun y => y.2.2) := by
  refine Ret_of (vs := [_, _]) hm none' Tryz.func37 rfl Tryz.ntmps37 rfl ?_
  dsimp only [slotsOf]
  refine Zp 3 [0] rfl ?_;refine Zx [_] rfl rfl fun b2 => ?_;refine Zr 2 rfl ?_;refine Zz ?_;refine Zp 4 [2] rfl ?_;refine ZN [_] rfl ag_113 sz_113 rfl rfl ?_;refine Zv rfl ?_;refine Zc rfl rn_59 (fun w hw => C_check6 (hr2.sh hw) (hr.sh hw)) GR_nil ?_;refine Zv rfl ?_;refine GT_nil ?_;refine Zq [1, 2, 6] 2 [] rfl rfl ?_;refine Zv rfl ?_;refine GT_S rfl (V_isF (V_neq rfl rfl rfl) (fun q => q rfl)) ?_;refine GT_nil ?_;refine GE_cond_f rfl ?_;refine GE_skip ?_;refine Zp 5 [2] rfl ?_;refine ZN [_] rfl ag_113 sz_113 rfl rfl ?_;refine Zv rfl ?_;refine ZC rfl rn_60 (fun w hw => C_read6 (hr.sh hw) (hr2.sh hw)) (fun _ _ => GR_nil) (fun y hy => ?_);refine Zr 2 rfl ?_;refine GT_nil ?_;refine GE_ret Tryz.func37 ⟨_, _, rfl, rfl, rfl⟩ (fun w hw => ?_)
  exact ⟨y, hy, rfl, hw.hs (C := cx Tryz.prog hm 0 0 _ none' fun _ _ => True) HS.last⟩
end
end Go.Proofs.YtncleikbggjmjaaGreatDoor.Ply
