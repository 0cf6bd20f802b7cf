/- Texts of this proof, one behind the other: Wbc, Wbd, Vp0, Wbe, Wbf, Wbg, Wbh. -/
import Derived.Test.YtncleikbggjmjaaGreatDoorMt0
import Derived.Test.YtncleikbggjmjaaGreatDoorMt21
import Derived.Test.YtncleikbggjmjaaGreatDoorMt18
/- A shop of plates does an act, walked. -/
namespace Go.Proofs.YtncleikbggjmjaaGreatDoor.Plg
open Go.Sx Go.Proofs Go.RowKit
open Side (eN eN_len eN_one getD_memT sh_trans)
open Lis (Plt ePlt ePlt_len)
abbrev fnV (i : Nat) : Value := .func (.func i) #[] #[]
abbrev actsL : List Value := [.nilFunc, fnV 42, fnV 43, fnV 44, fnV 45, fnV 46, fnV 47]
section
variable {w w0 : World} {S : Shp} {G : Items} {a : Nat → Int}
theorem acts_ex (h : (a 0 = 1 ∧ 1 ≤ a 2) ∨ (2 ≤ a 0 ∧ a 0 ≤ 6)) : ∃ k fi : Nat, a 0 = k ∧ k < 7 ∧ actsL[k]? = some (fnV fi) ∧ runs Tryz.prog fi = true ∧ ActC fi a := by
  rcases h with ⟨h1, h2⟩ | ⟨h1, h2⟩
  · exact ⟨1, _, h1, by decide, rfl, rn_42, A_lacquer h1 h2⟩
  · rcases (show a 0 = 2 ∨ a 0 = 3 ∨ a 0 = 4 ∨ a 0 = 5 ∨ a 0 = 6 by omega) with h | h | h | h | h
    · exact ⟨2, _, h, by decide, rfl, rn_43, A_bath h⟩
    · exact ⟨3, _, h, by decide, rfl, rn_44, A_grow h⟩
    · exact ⟨4, _, h, by decide, rfl, rn_45, A_flaw h⟩
    · exact ⟨5, _, h, by decide, rfl, rn_46, A_mend h⟩
    · exact ⟨6, _, h, by decide, rfl, rn_47, A_retire h⟩
structure Done (a : Nat → Int) (S : Shp) (y : Shp × Int × Int) : Prop where
  ok : y.1.Ok
  b : y.1.b = S.b
  R : y.1.R = S.R
  al : y.1.al.length ≤ S.al.length + 1
  st : Step a S.st y.2.1 y.2.2 y.1.st
set_option maxRecDepth 20000 in
set_option maxHeartbeats 1000000 in
theorem C_Do (m0 : SH w0 none' (S.W G) w) (hS : S.Ok) (hal : S.al.length < 1000) :
    Ret Tryz.prog 22 [ptr S.b 0, aV a].toArray w fun v w' => ∃ y : Shp × Int × Int, Done a S y ∧ v = .tuple #[I y.2.1, I y.2.2] ∧ SH w0 none' (y.1.W G) w' := by
  have m1 : SH w0 none' ((S.b, blk S.cells 75) :: (S.s1.2.2 ++ (S.s2.2.2 ++ (S.s3.2.2 ++ (S.s4.2.2 ++ (PJ S.qs ++ G)))))) w := m0
  refine Ret_ofH (vs := [_, _]) hm none' Tryz.func22 rfl Tryz.ntmps22 rfl m1 ?_
  dsimp only [slotsOf]
  refine Zp 3 [0] rfl ?_;refine Zx [_, _, _, _, _, _, _, _, _, _, _, _, _] rfl rfl fun b3 => ?_;refine Zr 2 rfl ?_;refine Zz ?_;refine GE_block ?_;refine Zp 3 [1] rfl ?_;refine Zv rfl ?_;refine Zc rfl rn_23 (fun w hw => C_bad (ShAt.of (tail hw) hS).blk) GR_nil ?_;refine Zv rfl ?_;refine GT_nil ?_;refine GE_cond_f rfl ?_;refine Zq [0, 3] 7 [] rfl rfl ?_;refine Zr 2 rfl ?_;refine Zg rfl fo_75_5 rfl ag_25 rfl ?_;refine Zn rfl Tryz.underlying25 ?_;refine GT_S rfl (V_isF (V_geq rfl rfl rfl) (by omega)) ?_;refine Zv rfl ?_;refine GT_nil ?_;refine GE_cond_f rfl ?_;refine Zq [0, 3] 4 [1] rfl rfl ?_;refine ZN [_, _, _, _, _, _, _, _, _, _, _, _, _] rfl ag_70 sz_70 rfl rfl ?_;refine ZC rfl rn_41 (fun w hw => C_valid) (fun _ _ => GR_nil) (fun v hv => ?_);refine GT_S rfl (V_notB rfl rfl) ?_;refine Zv rfl ?_;refine GT_nil ?_;refine GE_condNotB rfl (fun q1 => ?_) (fun q1 => ?_)
  · refine Zq [] 2 [] rfl rfl ?_;refine Zr 2 rfl ?_;refine GT_nil ?_;refine GE_ret Tryz.func22 ⟨_, _, rfl, rfl, rfl⟩ (fun w hw => ?_)
    exact ⟨(S, 0, 2), ⟨hS, rfl, rfl, Nat.le_succ _, .err 0 (show (2 : Int) ≠ 0 by decide)⟩, rfl, hw.hs (C := cx Tryz.prog hm 0 0 w0 none' fun _ _ => True) (HS.cons rfl (HS.chunk (HS.chunk (HS.chunk (HS.chunk (HS.chunk HS.last))))))⟩
  · obtain ⟨k, fi, hak, hk7, hfi, hrun, hA⟩ := acts_ex (hv q1)
    refine GE_skip ?_;refine GE_inBlock ?_;refine Zq [0, 3] 3 [1, 2] rfl rfl ?_;refine GT_S rfl (V_build (vs := [_, _, _, _, _, _, _]) rfl rfl zc_119 pl_119 sa_119 rfl) ?_;refine Zb rfl zc_119 fun b6 => ?_;refine ZS [_, _, _, _, _, _, _] [_, _, _, _, _, _, _] rfl rfl sz_119 rfl rfl rfl ?_;refine Zz ?_;refine GE_drawn (.st 0 (.st 1 (.st 2 (.st 3 (.st 4 (.st 5 (.ld 6 [] (.st 7 (.st 8 (.st 9 (.st 10 (.st 11 .nil)))))))))))) [6] (by decide +kernel) ?_;refine Zg rfl fo_70_0 rfl ag_3 rfl ?_;refine GT_S rfl (V_indexArr rfl rfl rfl Tryz.underlying119 sz_118 (kk := k) hak hk7) ?_;refine ZL rfl ag_118 (CellAt.item (by rw [show 0 + k * 1 = k by omega]; exact hfi)) ?_;refine Zv rfl ?_;refine ZN [_, _, _, _, _, _, _, _, _, _, _, _, _] rfl ag_70 sz_70 rfl rfl ?_;refine GT_callX rfl rfl rfl rfl rfl rfl rfl rfl hrun (fun w m9 => hA w0 w S ((b6, blk actsL 119) :: (b3, blk (eAct a) 70) :: G) (m9.hs (C := cx Tryz.prog hm 0 0 w0 none' fun _ _ => True) (HS.cons rfl (HS.chunk (HS.chunk (HS.chunk (HS.chunk (HS.chunk (HS.cons rfl (HS.cons rfl HS.last))))))))) hS) (fun _ _ => GR_nil) (fun y hy => ?_);obtain ⟨⟨b', R', s1', s2', s3', s4', qs', ts', fl', al'⟩, nn, ee⟩ := y;obtain ⟨hyok, hyb, hyR, hyal, hys4, hyst⟩ := hy;dsimp only at hyok hyb hyR hyal hys4 hyst ⊢;subst hyb hyR hyal hys4;have hn4 := hyok.n4;have ho4 := hyok.o4;dsimp only at hn4 ho4
    refine Zr 5 rfl ?_;refine Zz ?_;refine Zq [0, 3, 7, 8] 2 [] rfl rfl ?_;refine Zv rfl ?_;refine GT_S rfl (V_eql rfl rfl rfl) ?_;refine GT_nil ?_;refine GE_cond rfl (fun q2 => ?_) (fun q2 => ?_)
    · refine GE_drawn (.st 0 (.st 1 (.st 2 (.st 3 (.st 4 (.st 5 (.ld 6 [0, 1, 2, 3, 4] (.ld 7 [0] (.st 8 (.st 9 (.ld 10 [] .nil))))))))))) [6, 7, 10] (by decide +kernel) ?_;refine Zr 3 rfl ?_;refine Zg rfl fo_75_5 rfl ag_25 rfl ?_;refine ZN [_, _, _, _, _, _, _, _, _, _, _, _, _] rfl ag_70 sz_70 rfl rfl ?_;refine GT_buildSlice (z := [_, _, _, _, _, _, _, _, _, _, _, _, _]) rfl rfl rfl rfl rfl Tryz.underlying25 zc_70 sz_70 (by decide) rfl rfl (fun _ => Rv rfl rfl (Rv rfl rfl (Rv rfl rfl (Rf rfl fo_75_5 rfl (Rl rfl ag_25 rfl rfl GR_nil))))) (fun b42 => ?_);refine GT_append (enc := eAct) (l := S.al) (m := [a]) rfl rfl rfl rfl rfl rfl rfl ho4 (fun w m => RdL.own' m eAct_len) Tryz.underlying25 zc_70 sz_70 ⟨rfl, by decide⟩ by_70 ⟨by simp only [List.length_singleton]; omega, by simp only [List.length_singleton]; omega⟩ eAct_len eAct_one (fun _ _ _ _ => Rv rfl rfl GR_nil) (fun A3 c3 I3 hO3 => ?_);refine Zv rfl ?_;refine Zf rfl fo_75_5 ?_;refine ZS [_] [_, _, _, _, _, _, _, _, _, _, _, _, _, _, _, _, _, _] rfl rfl sz_25 rfl rfl rfl ?_;refine GT_nil ?_;refine Zq [7, 8] 4 [] rfl rfl ?_;refine Zr 4 rfl ?_;refine GT_nil ?_;refine GE_ret Tryz.func22 ⟨_, _, rfl, rfl, rfl⟩ (fun w hw => ?_)
      exact ⟨(⟨S.b, S.R, s1', s2', s3', (A3, c3, I3), qs', ts', fl', S.al ++ [a]⟩, nn, ee), ⟨⟨hyok.r1, hyok.r2, hyok.o1, hyok.o2, hyok.o3, hO3, hyok.n1, hyok.n2, hyok.n3, by rw [List.length_append, List.length_singleton]; omega, hyok.ps⟩, rfl, rfl, by rw [List.length_append, List.length_singleton]; exact Nat.le_refl _, hyst⟩, rfl, hw.hs (C := cx Tryz.prog hm 0 0 w0 none' fun _ _ => True) (HS.cons rfl (HS.chunk (HS.chunk (HS.chunk (HS.chunk (HS.chunk HS.last))))))⟩
    · refine GE_skip ?_;refine Zq [7, 8] 4 [] rfl rfl ?_;refine Zr 4 rfl ?_;refine GT_nil ?_;refine GE_ret Tryz.func22 ⟨_, _, rfl, rfl, rfl⟩ (fun w hw => ?_)
      exact ⟨(⟨S.b, S.R, s1', s2', s3', S.s4, qs', ts', fl', S.al⟩, nn, ee), ⟨hyok, rfl, rfl, Nat.le_succ _, hyst⟩, rfl, hw.hs (C := cx Tryz.prog hm 0 0 w0 none' fun _ _ => True) (HS.cons rfl (HS.chunk (HS.chunk (HS.chunk (HS.chunk (HS.chunk HS.last))))))⟩
end
end Go.Proofs.YtncleikbggjmjaaGreatDoor.Plg
/- What a shop tells: its plates, and the plates that bear a flaw, walked. -/
namespace Go.Proofs.YtncleikbggjmjaaGreatDoor.Plg
open Go.Sx Go.Proofs Go.RowKit
open Side (eN eN_len eN_one getD_memT sh_trans)
open Lis (Plt ePlt ePlt_len)
theorem ePlt_one (d : Plt) : ∀ u ∈ ePlt d, u.oneCell' = true := fun u h => by
  unfold ePlt at h; simp only [List.mem_cons, List.not_mem_nil, or_false] at h
  rcases h with rfl | rfl | rfl | rfl | rfl | rfl | rfl <;> rfl
theorem CellsAt.blkQ {C : Cx} {H : Items} {g q : Nat} {cs vs : List Value} {t : TypeId} (h : BlkAt C.w0 g cs t) (hM : ¬ C.M g) (hv : (cs.drop q).take vs.length = vs) : CellsAt C H ⟨g, q, none⟩ vs := fun i v hi => by
  have h1 : cs[q + i]? = some v := by
    rw [← hv, List.getElem?_take] at hi
    split at hi
    · rwa [List.getElem?_drop] at hi
    · cases hi
  rw [add_lit]; exact CellAt.old (h.cell h1) hM
section
variable {C : Cx} {L : Slots} {H : Items} {o : Oper} {κ ν : Type} {ke : κ → Value} {ve : ν → Value} {f : κ → Option ν} {ob : Obj} {kt : TypeId}
theorem V_lookupOkW {t e r : Nat} {x y : Operand} {q : κ} {z : ν} {u : Value} (hm : MapIs ke ve f ob) (hr : C.w0.heap[r]? = some ob) (hM : ¬ C.M r) (hk : KeyOk C.P kt ke) (ho : o.op = .lookup t x y true) (hx : ev L x = some (.map (some r))) (hy : ev L y = some u) (hu : u = ke q) (htm : C.P.underlying t = some (.map kt e)) (hz : (C.P.info? e).bind (·.zero) = some (ve z)) : OpV C L H o (.tuple #[ve ((f q).getD z), .bool (f q).isSome]) := fun D a w s m => by
  subst hu
  have hr2 : w.heap[r]? = some ob := by rw [m.old r (Array.getElem?_eq_some_iff.1 hr).1 hM]; exact hr
  simp [execOp, ho, s.eval hx, s.eval hy, run_lookupM hm hr2 hk htm hz]
end
theorem ShAt.ptrAt {C : Cx} {H : Items} {S : Shp} {k : Nat} (h : ShAt C.w0 S) (hM : ∀ b, ¬ C.M b) (hk : k < S.qs.length) : CellAt C H ((ad S.s1.1).add (k * 1)) (ptr (S.qs.getD k default).g 0) :=
  h.r1.at0 hM (k := k) (by rw [gs_len]; exact hk) (by rw [gs_at hk]; rfl)
section
variable {w : World} {S : Shp} {a : Nat → Int} {z : Int} {k k2 : Nat}
abbrev Shp.ps (S : Shp) : List Plt := S.qs.map (·.p)
theorem ps_at {S : Shp} {k : Nat} (hk : k < S.qs.length) : S.ps.getD k default = (S.qs.getD k default).p := by
  simp [List.getD, hk]
theorem take_ps {S : Shp} {k : Nat} (hk : k < S.qs.length) : S.ps.take (k + 1) = S.ps.take k ++ [(S.qs.getD k default).p] := by
  have hk2 : k < S.ps.length := by rw [List.length_map]; exact hk
  rw [List.take_succ_eq_append_getElem hk2, ← ps_at hk]; simp [List.getD, hk]
theorem C_Plates (h : ShAt w S) (hS : S.Ok) : Con Tryz.prog 7 [ptr S.b 0] w (fun y : Option Addr × Nat × Items => Own 7 78 ePlt S.ps (.slice y.1 S.qs.length y.2.1) y.2.2) (fun y => .slice y.1 S.qs.length y.2.1) (fun y => y.2.2) := by
  have hn1 := hS.n1
  refine Ret_of (vs := [_]) hm none' Tryz.func7 rfl Tryz.ntmps7 rfl ?_
  dsimp only [slotsOf]
  refine Zp 1 [] rfl ?_;refine Zv rfl ?_;refine Zz ?_;refine Zp 2 [1] rfl ?_;refine Zv rfl ?_;refine Zc rfl rn_23 (fun w hw => C_bad (h.sh hw.nil).blk) GR_nil ?_;refine GT_nil ?_;refine GE_cond_f rfl ?_;refine GE_skip ?_;refine Zp 1 [] rfl ?_;refine Zv rfl ?_;refine Zz ?_;refine Zp 6 [] rfl ?_;refine Zr 2 rfl ?_;refine Zf rfl fo_75_2 ?_;refine ZL rfl ag_71 (CellAt.old (h.blk.cell rfl) (noM _)) ?_;refine Zn rfl Tryz.underlying71 ?_;refine Zv rfl ?_;refine GT_nil ?_;refine GE_block ?_;refine GE_to (GE_loop (ι := Nat × (Option Addr × Nat × Items)) (fun z => S.qs.length - z.1) (fun z => [(3, .slice z.2.1 (S.ps.take z.1).length z.2.2.1), (11, .slice S.s1.1 S.qs.length S.s1.2.1), (12, I S.qs.length), (13, I z.1)]) (fun z => z.2.2.2 ++ []) (fun z => z.1 ≤ S.qs.length ∧ Own 7 78 ePlt (S.ps.take z.1) (.slice z.2.1 (S.ps.take z.1).length z.2.2.1) z.2.2.2) ?_ (0, (none, 0, [])) ?_) ⟨rfl, rfl, rfl, rfl, trivial⟩ HS.nil
  · rintro ⟨k, u⟩ ⟨hk, hU⟩ ih; dsimp only at hk hU ih ⊢
    refine Zp 1 [] rfl ?_;refine GT_S rfl (V_lss rfl rfl rfl) ?_;refine Zz ?_;refine GE_cond rfl (fun q1 => ?_) (fun q1 => ?_)
    · have hkl : k < S.qs.length := (by omega); have hg := h.pl k hkl; have htl : (S.ps.take k).length = k := (by rw [List.length_take, List.length_map]; omega)
      refine GE_skip ?_;refine GE_seq ?_;refine GE_block ?_;refine Zp 3 [] rfl ?_;refine GT_S rfl (V_index rfl rfl rfl Tryz.underlying71 sz_76 (k := k) rfl hkl (h.r1.isSome (k := k) (by rw [gs_len]; exact hkl))) ?_;refine ZL rfl ag_76 (h.ptrAt noM hkl) ?_;refine Zv rfl ?_;refine GT_nil ?_;refine ZP 8 [5, 6, 7] rfl ?_;refine Zr 3 rfl ?_;refine Zf rfl fo_81_0 ?_;refine GT_S rfl (V_loadN (vs := [_, _, _, _, _, _, _]) rfl rfl ag_78 sz_78 rfl (show CellsAt _ _ _ (ePlt (S.qs.getD k default).p) from CellsAt.blkQ hg (fun q => q) rfl)) ?_;refine GT_buildSlice (z := [_, _, _, _, _, _, _]) rfl rfl rfl rfl rfl Tryz.underlying34 zc_78 sz_78 (by decide) rfl rfl (fun _ => GR_nil) (fun b22 => ?_);refine GT_append (enc := ePlt) (l := S.ps.take k) (m := [(S.qs.getD k default).p]) rfl rfl rfl rfl rfl rfl rfl hU (fun w m => RdL.own' m ePlt_len) Tryz.underlying34 zc_78 sz_78 ⟨rfl, by decide⟩ by_78 ⟨by simp only [List.length_singleton]; omega, by simp only [List.length_singleton]; omega⟩ ePlt_len ePlt_one (fun _ _ _ _ => GR_nil) (fun A3 c3 I3 hO3 => ?_);refine Zw rfl ?_;refine GT_nil ?_;refine GE_inBlock ?_;refine Zs [3, 11, 12, 13] rfl ?_;refine ZP 2 [1] rfl ?_;refine Za rfl (by omega) ?_;refine Zw rfl ?_;refine GT_nil ?_
      exact GE_to (ih (k + 1, (A3, c3, I3)) ⟨by dsimp only; omega, by dsimp only; rw [take_ps hkl]; exact hO3⟩ (by dsimp only; omega)) ⟨lookS rfl (by dsimp only; rw [take_ps hkl]), rfl, rfl, rfl, trivial⟩ (HS.chunk HS.nil)
    · obtain rfl : k = S.qs.length := (by omega); have htk : S.ps.take S.qs.length = S.ps := List.take_of_length_le (by rw [List.length_map]; exact Nat.le_refl _); have hpl : S.ps.length = S.qs.length := List.length_map ..; rw [htk, hpl] at hU
      refine GE_exit rfl ?_;refine Zq [3] 2 [] rfl rfl ?_;refine Zr 2 rfl ?_;refine GT_nil ?_;refine GE_ret Tryz.func7 rfl (fun w hw => ?_)
      exact ⟨u, hU, by rw [htk, hpl], hw.hs (C := cx Tryz.prog hm 0 0 _ none' fun _ _ => True) HS.last⟩
  · exact ⟨Nat.zero_le _, Own.nil⟩
theorem C_Origin (h : ShAt w S) (hz : z = k) (hk : k < S.fl.length) : Con Tryz.prog 24 [ptr S.b 0, I z] w (fun _ : Int × Int => True) (fun y => .tuple #[I y.1, I y.2, I 0]) (fun _ => []) := by
  subst hz
  refine Ret_of (vs := [_, _]) hm none' Tryz.func24 rfl Tryz.ntmps24 rfl ?_
  dsimp only [slotsOf]
  refine Zp 3 [] rfl ?_;refine Zr 3 rfl ?_;refine Zz ?_;refine Zp 2 [1] rfl ?_;refine Zv rfl ?_;refine Zc rfl rn_23 (fun w hw => C_bad (h.sh hw.nil).blk) GR_nil ?_;refine GT_nil ?_;refine GE_cond_f rfl ?_;refine GE_skip ?_;refine GE_seq ?_;refine Zq [0, 1] 11 [] rfl rfl ?_;refine Zv rfl ?_;refine GT_S rfl (V_isF (V_lss rfl rfl rfl) (by omega)) ?_;refine Zr 4 rfl ?_;refine Zf rfl fo_75_4 ?_;refine ZL rfl ag_73 (CellAt.old (h.blk.cell rfl) (noM _)) ?_;refine Zn rfl Tryz.underlying73 ?_;refine GT_S rfl (V_isF (V_geq rfl rfl rfl) (by omega)) ?_;refine Zv rfl ?_;refine GT_nil ?_;refine GE_cond_f rfl ?_;refine GE_skip ?_;refine GE_seq ?_;refine Zs [0, 1] rfl ?_;refine GE_drawn (.st 0 (.st 1 (.st 2 (.st 3 (.st 4 (.st 5 (.st 6 (.st 7 (.st 8 (.st 9 (.st 10 (.st 11 (.st 12 (.st 13 (.st 14 (.st 15 (.st 16 (.st 17 (.st 18 .nil))))))))))))))))))) [] (by decide +kernel) ?_;refine Zr 2 rfl ?_;refine Zf rfl fo_75_4 ?_;refine ZL rfl ag_73 (CellAt.old (h.blk.cell rfl) (noM _)) ?_;refine Zv rfl ?_;refine GT_S rfl (V_index rfl rfl rfl Tryz.underlying73 sz_121 (k := k) rfl hk (h.r3.isSome hk)) ?_;refine GT_S rfl (V_fieldA rfl rfl fo_121_0) ?_;refine ZL rfl ag_3 (h.r3.at0 noM hk rfl) ?_;refine Zr 2 rfl ?_;refine Zf rfl fo_75_4 ?_;refine ZL rfl ag_73 (CellAt.old (h.blk.cell rfl) (noM _)) ?_;refine Zv rfl ?_;refine GT_S rfl (V_index rfl rfl rfl Tryz.underlying73 sz_121 (k := k) rfl hk (h.r3.isSome hk)) ?_;refine GT_S rfl (V_fieldA rfl rfl fo_121_1) ?_;refine ZL rfl ag_3 (h.r3.at1 noM hk rfl) ?_;refine Zr 3 rfl ?_;refine GT_nil ?_;refine GE_ret Tryz.func24 ⟨_, _, _, rfl, rfl, rfl, rfl⟩ (fun w hw => ?_)
  exact ⟨(_, _), trivial, rfl, hw.nil⟩
def bearN (qs : List PH) (f : Int) : Nat → List Int
  | 0 => []
  | k + 1 => bearN qs f k ++ if ((qs.getD k default).f f).isSome = true then [(k : Int)] else []
theorem bearN_len (qs : List PH) (f : Int) : ∀ k, (bearN qs f k).length ≤ k
  | 0 => Nat.le_refl _
  | k + 1 => by
    rw [bearN, List.length_append]
    have := bearN_len qs f k
    split
    · rw [List.length_singleton]; omega
    · rw [List.length_nil]; omega
theorem C_Bearers (h : ShAt w S) (hS : S.Ok) (hz : z = k) (hk : k < S.fl.length) : Con Tryz.prog 9 [ptr S.b 0, I z] w (fun y : Option Addr × Nat × Items => Own 1 3 eN (bearN S.qs k S.qs.length) (.slice y.1 (bearN S.qs k S.qs.length).length y.2.1) y.2.2) (fun y => .tuple #[.slice y.1 (bearN S.qs k S.qs.length).length y.2.1, I 0]) (fun y => y.2.2) := by
  have hn1 := hS.n1
  refine Ret_of (vs := [_, _]) hm none' Tryz.func9 rfl Tryz.ntmps9 rfl ?_
  dsimp only [slotsOf]
  refine Zp 2 [] rfl ?_;refine Zr 2 rfl ?_;refine Zz ?_;refine Zp 10 [2] rfl ?_;refine Zr 2 rfl ?_;refine ZC rfl rn_24 (fun w hw => C_Origin (h.sh hw.nil) hz hk) (fun _ _ => GR_nil) (fun oo _ => ?_);refine Zr 7 rfl ?_;refine GT_nil ?_;refine Zq [0, 1, 8] 2 [] rfl rfl ?_;refine Zv rfl ?_;refine GT_S rfl (V_isF (V_neq rfl rfl rfl) (fun q => q rfl)) ?_;refine GT_nil ?_;refine GE_cond_f rfl ?_;refine GE_skip ?_;refine Zp 1 [] rfl ?_;refine Zv rfl ?_;refine Zz ?_;refine Zp 6 [] rfl ?_;refine Zr 2 rfl ?_;refine Zf rfl fo_75_2 ?_;refine ZL rfl ag_71 (CellAt.old (h.blk.cell rfl) (noM _)) ?_;refine Zn rfl Tryz.underlying71 ?_;refine Zv rfl ?_;refine GT_nil ?_;refine GE_block ?_;refine GE_to (GE_loop (ι := Nat × (Option Addr × Nat × Items)) (fun z' => S.qs.length - z'.1) (fun z' => [(1, I z), (9, .slice z'.2.1 (bearN S.qs k z'.1).length z'.2.2.1), (27, .slice S.s1.1 S.qs.length S.s1.2.1), (28, I S.qs.length), (29, I z'.1)]) (fun z' => z'.2.2.2 ++ []) (fun z' => z'.1 ≤ S.qs.length ∧ Own 1 3 eN (bearN S.qs k z'.1) (.slice z'.2.1 (bearN S.qs k z'.1).length z'.2.2.1) z'.2.2.2) ?_ (0, (none, 0, [])) ?_) ⟨rfl, rfl, rfl, rfl, rfl, trivial⟩ HS.nil
  · rintro ⟨j, u⟩ ⟨hj, hU⟩ ih; dsimp only at hj hU ih ⊢
    refine Zp 1 [] rfl ?_;refine GT_S rfl (V_lss rfl rfl rfl) ?_;refine Zz ?_;refine GE_cond rfl (fun q1 => ?_) (fun q1 => ?_)
    · have hkl : j < S.qs.length := (by omega); have hg := h.pl j hkl; have hbl := bearN_len S.qs k j
      refine GE_skip ?_;refine GE_seq ?_;refine GE_block ?_;refine Zp 5 [] rfl ?_;refine Zv rfl ?_;refine GT_S rfl (V_index rfl rfl rfl Tryz.underlying71 sz_76 (k := j) rfl hkl (h.r1.isSome (k := j) (by rw [gs_len]; exact hkl))) ?_;refine ZL rfl ag_76 (h.ptrAt noM hkl) ?_;refine Zr 2 rfl ?_;refine GT_nil ?_;refine Zq [1, 9, 10, 11, 27, 28, 29] 12 [9, 10] rfl rfl ?_;refine Zr 2 rfl ?_;refine Zf rfl fo_81_1 ?_;refine ZL rfl ag_79 (CellAt.old (hg.cell rfl) (noM _)) ?_;refine Zv rfl ?_;refine GT_S rfl (V_lookupOkW (q := (k : Int)) (z := ()) (hS.ps _ (getD_memT hkl)).1 (h.ob j hkl) (fun q => q) keyK rfl rfl rfl (congrArg I hz) Tryz.underlying79 zvU) ?_;refine Zr 3 rfl ?_;refine Zb rfl zc_84 fun b12 => ?_;refine ZS [] _ rfl rfl sz_84 rfl rfl rfl ?_;refine Zv rfl ?_;refine GT_nil ?_;refine Zq [1, 9, 10, 13, 27, 28, 29] 1 [] rfl rfl ?_;refine Zv rfl ?_;refine GT_nil ?_;refine GE_condB rfl (fun q2 => ?_) (fun q2 => ?_)
      · refine ZP 5 [2, 3, 4] rfl ?_;refine Zr 2 rfl ?_;refine GT_buildSlice (z := [_]) rfl rfl rfl rfl rfl Tryz.underlying38 zc_3 sz_3 (by decide) rfl rfl (fun _ => GR_nil) (fun b46 => ?_);refine GT_append (enc := eN) (l := bearN S.qs k j) (m := [(j : Int)]) rfl rfl rfl rfl rfl rfl rfl hU (fun w m => RdL.own' m eN_len) Tryz.underlying38 zc_3 sz_3 ⟨rfl, by decide⟩ by_3 ⟨by simp only [List.length_singleton]; omega, by simp only [List.length_singleton]; omega⟩ eN_len eN_one (fun _ _ _ _ => GR_nil) (fun A3 c3 I3 hO3 => ?_);refine Zw rfl ?_;refine GT_nil ?_;refine GE_inBlock ?_;refine Zs [1, 9, 27, 28, 29] rfl ?_;refine ZP 2 [1] rfl ?_;refine Za rfl (by omega) ?_;refine Zw rfl ?_;refine GT_nil ?_
        first
          | exact GE_to (ih (j + 1, (A3, c3, I3)) ⟨by dsimp only; omega, by dsimp only; rw [bearN, if_pos q2]; exact hO3⟩ (by dsimp only; omega)) ⟨rfl, lookS rfl (by dsimp only; rw [bearN, if_pos q2]), rfl, rfl, rfl, trivial⟩ (HS.chunk HS.nil)
          | exact GE_to (ih (j + 1, u) ⟨by dsimp only; omega, by dsimp only; rw [bearN, if_neg (by rw [q2]; decide), List.append_nil]; exact hU⟩ (by dsimp only; omega)) ⟨rfl, lookS rfl (by dsimp only; rw [bearN, if_neg (by rw [q2]; decide), List.append_nil]), rfl, rfl, rfl, trivial⟩ (HS.chunk HS.nil)
      · refine GE_skip ?_;refine GE_inBlock ?_;refine ZP 2 [1] rfl ?_;refine Za rfl (by omega) ?_;refine Zw rfl ?_;refine GT_nil ?_
        first
          | exact GE_to (ih (j + 1, (A3, c3, I3)) ⟨by dsimp only; omega, by dsimp only; rw [bearN, if_pos q2]; exact hO3⟩ (by dsimp only; omega)) ⟨rfl, lookS rfl (by dsimp only; rw [bearN, if_pos q2]), rfl, rfl, rfl, trivial⟩ (HS.chunk HS.nil)
          | exact GE_to (ih (j + 1, u) ⟨by dsimp only; omega, by dsimp only; rw [bearN, if_neg (by rw [q2]; decide), List.append_nil]; exact hU⟩ (by dsimp only; omega)) ⟨rfl, lookS rfl (by dsimp only; rw [bearN, if_neg (by rw [q2]; decide), List.append_nil]), rfl, rfl, rfl, trivial⟩ (HS.chunk HS.nil)
    · obtain rfl : j = S.qs.length := (by omega)
      refine GE_exit rfl ?_;refine Zq [9] 3 [] rfl rfl ?_;refine Zr 3 rfl ?_;refine GT_nil ?_;refine GE_ret Tryz.func9 ⟨_, _, rfl, rfl, rfl⟩ (fun w hw => ?_)
      exact ⟨u, hU, rfl, hw.hs (C := cx Tryz.prog hm 0 0 _ none' fun _ _ => True) HS.last⟩
  · exact ⟨Nat.zero_le _, Own.nil⟩
end
end Go.Proofs.YtncleikbggjmjaaGreatDoor.Plg
/- A list of numbers turned round, plain and walked. -/
namespace Go.Proofs.YtncleikbggjmjaaGreatDoor.Prs
open Go.Sx Go.Proofs Go.RowKit
open Side (eN eN_len eN_one getD_memT sh_trans)
def revTo {α : Type} [Inhabited α] (l : List α) (k : Nat) : List α := (List.range l.length).map fun q => if q < k ∨ l.length - k ≤ q then l.getD (l.length - 1 - q) default else l.getD q default
theorem revTo_length {α : Type} [Inhabited α] (l : List α) (k : Nat) : (revTo l k).length = l.length := by simp [revTo]
theorem revTo_getD {α : Type} [Inhabited α] (l : List α) (k q : Nat) (hq : q < l.length) : (revTo l k).getD q default = if q < k ∨ l.length - k ≤ q then l.getD (l.length - 1 - q) default else l.getD q default := by
  simp [revTo, List.getD, hq]
theorem list_ext_getD {α : Type} [Inhabited α] {a b : List α} (hl : a.length = b.length) (h : ∀ q, q < a.length → a.getD q default = b.getD q default) : a = b := by
  apply List.ext_getElem hl
  intro i h1 h2
  have := h i h1
  simpa [List.getD, h1, h2] using this
theorem revTo_zero {α : Type} [Inhabited α] (l : List α) : revTo l 0 = l := by
  apply list_ext_getD (revTo_length l 0)
  intro q hq
  rw [revTo_length] at hq
  rw [revTo_getD _ _ _ hq, if_neg (by omega)]
theorem getD_set {α : Type} [Inhabited α] {l : List α} {i q : Nat} {x : α} (hi : i < l.length) : (l.set i x).getD q default = if i = q then x else l.getD q default := by
  simp only [List.getD, List.getElem?_set]
  split
  · rename_i h; subst h; simp [hi]
  · rfl
theorem revTo_succ {α : Type} [Inhabited α] (l : List α) (k j : Nat) (hj : j + k + 1 = l.length) (hk : k < j) : ((revTo l k).set k ((revTo l k).getD j default)).set j ((revTo l k).getD k default) = revTo l (k + 1) := by
  apply list_ext_getD (by simp [revTo_length])
  intro q hq
  simp only [List.length_set, revTo_length] at hq
  rw [getD_set (by simp [revTo_length]; omega), getD_set (by simp [revTo_length]; omega), revTo_getD _ _ _ hq, revTo_getD _ _ _ hq, revTo_getD l k j (by omega), revTo_getD l k k (by omega)]
  by_cases h1 : j = q
  · subst h1
    rw [if_pos rfl, if_neg (by omega), if_pos (by omega)]
    congr 1; omega
  · rw [if_neg h1]
    by_cases h2 : k = q
    · subst h2
      rw [if_pos rfl, if_neg (by omega), if_pos (by omega)]
      congr 1; omega
    · rw [if_neg h2]
      by_cases h3 : q < k ∨ l.length - k ≤ q
      · rw [if_pos h3, if_pos (by omega)]
      · rw [if_neg h3, if_neg (by omega)]
theorem revTo_end {α : Type} [Inhabited α] (l : List α) (k : Nat) (hk : l.length ≤ 2 * k + 1) : revTo l k = l.reverse := by
  apply list_ext_getD (by simp [revTo_length])
  intro q hq
  rw [revTo_length] at hq
  rw [revTo_getD _ _ _ hq]
  have : l.reverse.getD q default = l.getD (l.length - 1 - q) default := by simp [List.getD, List.getElem?_reverse hq]
  rw [this]
  split
  · rfl
  · congr 1; omega
theorem C_ReverseI {l : List Int} {A : Option Addr} {c : Nat} {I0 : Items} {w : World} {w0 : World} {H H1 : Items} [hch : HChunk I0 H H1] (m : SH w0 none' H w) (hO : Own 1 3 eN l (.slice A l.length c) I0) (hl : l.length ≤ 1099511627776) :
    Ret Tryz.prog 54 [.slice A l.length c].toArray w fun v w' => ∃ I', Own 1 3 eN l.reverse (.slice A l.length c) I' ∧ v = .tuple #[] ∧ SH w0 none' (I' ++ H1) w' := by
  have m' := m.perm hch.perm
  refine Ret_ofH (vs := [_]) hm none' Tryz.func54 rfl Tryz.ntmps54 rfl m' ?_
  dsimp only [slotsOf]
  refine Zp 5 [] rfl ?_;refine Zv rfl ?_;refine Zn rfl Tryz.underlying38 ?_;refine Za rfl (by omega) ?_;refine Zr 2 rfl ?_;refine GT_nil ?_;refine GE_block ?_;refine GE_to (GE_loop (ι := Nat × Int × Items) (fun x => l.length - x.1) (fun x => [(0, .slice A l.length c), (2, I x.1), (3, I x.2.1)]) (fun x => x.2.2 ++ H1) (fun x => x.1 ≤ l.length ∧ x.2.1 = (l.length : Int) - 1 - x.1 ∧ Own 1 3 eN (revTo l x.1) (.slice A l.length c) x.2.2) ?_ (0, _, I0) ?_) ⟨rfl, rfl, rfl, trivial⟩ (HS.chunk HS.all)
  · rintro ⟨k, j, I1⟩ ⟨hk, hj, hO1⟩ ih; dsimp only at hk hj hO1 ih ⊢
    refine GE_seq ?_;refine Zp 3 [] rfl ?_;refine Zr 2 rfl ?_;refine GT_S rfl (V_lss rfl rfl rfl) ?_;refine GT_nil ?_;refine GE_cond rfl (fun h1 => ?_) (fun h1 => ?_)
    · have hlen := revTo_length l k
      refine GE_skip ?_;refine GE_seq ?_;refine GE_block ?_;refine GE_drawn (.st 0 (.st 1 (.st 2 (.st 3 (.st 4 (.st 5 (.st 6 (.st 7 (.st 8 (.st 9 (.st 10 (.st 11 (.st 12 (.ld 13 [2, 3] (.st 14 (.ld 15 [] .nil)))))))))))))))) [13, 15] (by decide +kernel) ?_;refine Zr 6 rfl ?_;refine GT_S rfl (V_index rfl rfl rfl Tryz.underlying38 sz_3 (k := j.toNat) (by omega) (by omega) (hO1.isSome (k := k) (by omega))) ?_;refine ZL rfl ag_3 (CellAt.own0 (k := j.toNat) hO1 eN_len (by omega) rfl) ?_;refine Zr 2 rfl ?_;refine GT_S rfl (V_index rfl rfl rfl Tryz.underlying38 sz_3 rfl (by omega) (hO1.isSome (k := k) (by omega))) ?_;refine ZL rfl ag_3 (CellAt.own0 (k := k) hO1 eN_len (by omega) rfl) ?_;refine GT_S rfl (V_index rfl rfl rfl Tryz.underlying38 sz_3 rfl (by omega) (hO1.isSome (k := k) (by omega))) ?_;refine GT_storeOwn (enc := eN) (q := k) (xx := (revTo l k).getD j.toNat default) rfl rfl rfl rfl rfl rfl rfl sz_3 hO1 eN_len eN_one (by omega) (by decide) (fun _ _ => Rv rfl rfl (Rv rfl rfl GR_nil)) (fun I2 hO2 => ?_);refine GT_S rfl (V_index rfl rfl rfl Tryz.underlying38 sz_3 (k := j.toNat) (by omega) (by omega) (hO1.isSome (k := k) (by omega))) ?_;refine GT_storeOwn (enc := eN) (q := j.toNat) (xx := (revTo l k).getD k default) rfl rfl rfl rfl rfl rfl rfl sz_3 hO2 eN_len eN_one (by simp; omega) (by decide) (fun _ _ => GR_nil) (fun I3 hO3 => ?_);refine GT_nil ?_;refine GE_inBlock ?_;refine Zs [0, 2, 3] rfl ?_
      rw [revTo_succ l k j.toNat (by omega) (by omega)] at hO3
      refine ZP 6 [4, 5] rfl ?_;refine Zv rfl ?_;refine Za rfl (by omega) ?_;refine Zv rfl ?_;refine Za rfl (by omega) ?_;refine Zw rfl ?_;refine Zw rfl ?_;refine GT_nil ?_
      exact GE_to (ih (k + 1, _, I3) ⟨by dsimp only; omega, by dsimp only; omega, hO3⟩ (by dsimp only; omega)) ⟨rfl, rfl, rfl, trivial⟩ (HS.chunk HS.all)
    · have he := revTo_end l k (by omega)
      refine GE_exit rfl ?_;refine GE_end Tryz.func54 rfl (fun w hw => ?_)
      exact ⟨I1, by rw [← he]; exact hO1, rfl, hw⟩
  · exact ⟨Nat.zero_le _, by simp, by rw [revTo_zero]; exact hO⟩
end Go.Proofs.YtncleikbggjmjaaGreatDoor.Prs
/- The line of a plate, walked. -/
namespace Go.Proofs.YtncleikbggjmjaaGreatDoor.Plg
open Go.Sx Go.Proofs Go.RowKit
open Side (eN eN_len eN_one getD_memT sh_trans)
open Lis (Plt ePlt ePlt_len PlOk)
def upF (ps : List Plt) : Nat → Int → List Int
  | 0, _ => []
  | n + 1, i => if 0 ≤ i then i :: upF ps n (ps.getD i.toNat default).par else []
section
variable {w w0 : World} {S : Shp} {a : Nat → Int} {z i : Int} {k k2 lp b2 b3 : Nat} {J G : Items}
theorem C_up : Con Tryz.prog 53 [ptr S.b 0, I i] w (fun _ : Nat × Nat => True) (fun b => .func (.func 79) #[] #[ptr b.1 0, ptr b.2 0]) (fun b => [(b.1, blk [I i] 3), (b.2, blk [ptr S.b 0] 30)]) := by
  refine Ret_of (vs := [_, _]) hm none' Tryz.func53 rfl Tryz.ntmps53 rfl ?_
  dsimp only [slotsOf]
  refine Zp 3 [0, 1] rfl ?_;refine Zx [_] rfl rfl fun b2 => ?_;refine Zx [_] rfl rfl fun b3 => ?_;refine Zv rfl ?_;refine GT_nil ?_;refine Zp 2 [] rfl ?_;refine GT_S rfl (V_makeFunc rfl rfl rfl) ?_;refine Zv rfl ?_;refine GT_nil ?_;refine GE_ret Tryz.func53 rfl (fun w hw => ?_)
  exact ⟨(b3, b2), trivial, rfl, hw.hs (C := cx Tryz.prog hm 0 0 _ none' fun _ _ => True) (HS.cons rfl (HS.cons rfl HS.nil))⟩
set_option maxRecDepth 20000 in
theorem C_up1 {Q : List Int → Items → Prop} (h : ShAt w0 S) (hp : PlOk S.ps) (hi : -1 ≤ i ∧ i < S.qs.length)
    (hY : ∀ (pre : List Int) (k : Nat) (J : Items), k < S.qs.length → pre.length ≤ S.qs.length → Q pre J → ∀ G, YieldTo Tryz.prog w0 none' lp [I k] (J ++ G) fun v H' => ∃ J', v = .bool true ∧ Q (pre ++ [(k : Int)]) J' ∧ H' = J' ++ G)
    (hQ : Q [] J) (m : SH w0 none' (J ++ ((b3, blk [I i] 3) :: (b2, blk [ptr S.b 0] 30) :: G)) w) :
    Ret Tryz.prog 79 [.func (.yield lp) #[] #[], ptr b3 0, ptr b2 0].toArray w fun _ w' => ∃ J', Q (upF S.ps S.qs.length i) J' ∧ SH w0 none' (J' ++ G) w' := by
  refine Ret_ofH (vs := [_, _, _]) hm none' Tryz.func79 rfl Tryz.ntmps79 rfl m ?_
  dsimp only [slotsOf]
  refine GE_block ?_;refine GE_to (GE_loop (ι := Nat × Int × List Int × Items) (fun z => z.1) (fun z => [(0, .func (.yield lp) #[] #[]), (1, ptr b3 0), (2, ptr b2 0)]) (fun z => z.2.2.2 ++ ((b3, blk [I z.2.1] 3) :: (b2, blk [ptr S.b 0] 30) :: G)) (fun z => (-1 ≤ z.2.1 ∧ z.2.1 < S.qs.length ∧ z.2.1 < z.1) ∧ (z.2.2.1.length : Int) + z.2.1 < S.qs.length ∧ z.2.2.1 ++ upF S.ps z.1 z.2.1 = upF S.ps S.qs.length i ∧ Q z.2.2.1 z.2.2.2) ?_ (S.qs.length, i, [], J) ?_) ⟨rfl, rfl, rfl, trivial⟩ HS.all
  · rintro ⟨n, i', pre, J1⟩ ⟨⟨hi1, hi2, hi3⟩, hl, hU, hQ1⟩ ih; dsimp only at hi1 hi2 hi3 hl hU hQ1 ih ⊢
    refine GE_seq ?_;refine Zp 7 [5] rfl ?_;refine Zl rfl ag_3 rfl ?_;refine GT_S rfl (V_geq rfl rfl rfl) ?_;refine Zv rfl ?_;refine GT_split (d := 6) rfl (fun q1 => ?_) (fun q1 => ?_)
    · obtain ⟨k, rfl⟩ : ∃ k : Nat, i' = k := ⟨i'.toNat, by omega⟩; obtain ⟨n', rfl⟩ : ∃ n', n = n' + 1 := ⟨n - 1, by omega⟩; have hkl : k < S.qs.length := (by omega); have hg := h.pl k hkl; have hpp := Lis.Room.plate hp (i := k) (by rw [List.length_map]; exact hkl); rw [ps_at hkl] at hpp; have hst : upF S.ps (n' + 1) (k : Int) = (k : Int) :: upF S.ps n' (S.qs.getD k default).p.par := (by rw [upF, if_pos (by omega), Int.toNat_natCast, ps_at hkl])
      refine Zv rfl ?_;refine Zl rfl ag_3 rfl ?_;refine GT_yield_g rfl rfl rfl rfl rfl rfl rfl rfl rfl rfl (YieldTo.chunk (hY pre k J1 hkl (by omega) hQ1 _)) (fun _ _ _ => GR_nil) (fun v H' hR => ?_)
      obtain ⟨J2, rfl, hQ2, rfl⟩ := hR
      refine Zv rfl ?_;refine GT_nil ?_;refine GE_condB rfl (fun q2 => ?_) (fun q2 => ?_)
      · refine GE_skip ?_;refine GE_block ?_;refine Zs [0, 1, 2, 7, 8, 9] rfl ?_;refine GE_drawn (.st 0 (.st 1 (.st 2 (.st 3 (.st 4 (.st 5 (.st 6 (.st 7 (.st 8 (.st 9 (.st 10 (.ld 11 [] .nil)))))))))))) [11] (by decide +kernel) ?_;refine Zl rfl ag_30 rfl ?_;refine Zv rfl ?_;refine Zf rfl fo_75_2 ?_;refine ZL rfl ag_71 (CellAt.old (h.blk.cell rfl) (noM _)) ?_;refine Zl rfl ag_3 rfl ?_;refine GT_S rfl (V_index rfl rfl rfl Tryz.underlying71 sz_76 (k := k) rfl hkl (h.r1.isSome (k := k) (by rw [gs_len]; exact hkl))) ?_;refine ZL rfl ag_76 (h.ptrAt noM hkl) ?_;refine Zv rfl ?_;refine Zf rfl fo_81_0 ?_;refine Zf rfl fo_78_1 ?_;refine ZL rfl ag_3 (CellAt.old (hg.cell rfl) (noM _)) ?_;refine ZS [_] _ rfl rfl sz_3 rfl rfl rfl ?_;refine GT_nil ?_;refine GE_inBlock ?_
        exact GE_to (ih (n', (S.qs.getD k default).p.par, pre ++ [(k : Int)], J2) ⟨⟨by dsimp only; omega, by dsimp only; omega, by dsimp only; omega⟩, by dsimp only; rw [List.length_append, List.length_singleton]; omega, by dsimp only; rw [List.append_assoc, List.singleton_append, ← hU, hst], hQ2⟩ (by dsimp only; omega)) ⟨rfl, rfl, rfl, trivial⟩ (HS.chunk (HS.cons rfl (HS.cons rfl HS.last)))
      · refine GE_exit rfl ?_;refine GE_end Tryz.func79 rfl (fun w hw => (by first | exact absurd q2 (by decide) | (cases q2; done) | exact ⟨J1, hU ▸ hQ1, hw.hs (C := cx Tryz.prog hm 0 0 w0 none' fun _ _ => True) (HS.chunk HS.last)⟩))
        skip
    · have hend : upF S.ps n i' = [] := (by cases n; rfl; rw [upF, if_neg q1]); rw [hend, List.append_nil] at hU
      refine Zr 2 rfl ?_;refine GT_skip_ld rfl rfl rfl rfl rfl (by decide) rfl rfl rfl GR_nil ?_;refine Zv rfl ?_;refine GT_nil ?_;refine GE_cond_f rfl ?_;refine GE_exit rfl ?_;refine GE_end Tryz.func79 rfl (fun w hw => (by first | exact absurd q2 (by decide) | (cases q2; done) | exact ⟨J1, hU ▸ hQ1, hw.hs (C := cx Tryz.prog hm 0 0 w0 none' fun _ _ => True) (HS.chunk HS.last)⟩))
      skip
  · exact ⟨⟨hi.1, hi.2, hi.2⟩, by simp; exact hi.2, rfl, hQ⟩
end
end Go.Proofs.YtncleikbggjmjaaGreatDoor.Plg
/- The line of a plate, collected, walked. -/
namespace Go.Proofs.YtncleikbggjmjaaGreatDoor.Plg
open Go.Sx Go.Proofs Go.RowKit
open Side (eN eN_len eN_one getD_memT sh_trans)
open Lis (Plt ePlt ePlt_len PlOk)
theorem upF_len (ps : List Plt) : ∀ n i, (upF ps n i).length ≤ n
  | 0, _ => Nat.le_refl _
  | n + 1, i => by
    rw [upF]; split
    · rw [List.length_cons]; have := upF_len ps n ((ps.getD i.toNat default).par); omega
    · exact Nat.zero_le _
section
variable {w w0 : World} {S : Shp} {a : Nat → Int} {z i : Int} {k k2 lp b2 b3 bi bs : Nat} {J G : Items}
abbrev LineOk (S : Shp) (i : Int) (y : Option Addr × Nat × Items) : Prop := Own 1 3 eN (upF S.ps S.qs.length i) (.slice y.1 (upF S.ps S.qs.length i).length y.2.1) y.2.2
abbrev upV (b3 b2 : Nat) : Value := .func (.func 79) #[] #[ptr b3 0, ptr b2 0]
set_option maxRecDepth 20000 in
theorem C_AppendSeq (h : ShAt w0 S) (hp : PlOk S.ps) (hn : S.qs.length ≤ 256) (hi : -1 ≤ i ∧ i < S.qs.length) (m : SH w0 none' ((bi, blk [I i] 3) :: (bs, blk [ptr S.b 0] 30) :: G) w) :
    Ret Tryz.prog 78 [.slice none 0 0, upV bi bs].toArray w fun v w' => ∃ y : Option Addr × Nat × Items, LineOk S i y ∧ v = .slice y.1 (upF S.ps S.qs.length i).length y.2.1 ∧ SH w0 none' (y.2.2 ++ G) w' := by
  refine Ret_ofH (vs := [_, _]) hm none' Tryz.func78 rfl Tryz.ntmps78 rfl m ?_
  dsimp only [slotsOf]
  refine Zp 2 [0] rfl ?_;refine Zx [_] rfl rfl fun b2 => ?_;refine Zv rfl ?_;refine Zz ?_;refine Zp 1 [] rfl ?_;refine Zv rfl ?_;refine GT_nil ?_;refine GE_block ?_;refine GE_range rfl rfl rn_79 (fun T l7 q r0 hr0 hT hlk w hw => ?_);refine (C_up1 (i := i) (lp := l7) (b3 := bi) (b2 := bs) (J := (l7, .loop r0) :: (b2, blk [.slice none 0 0] 38) :: []) (G := (q, .deferred (some [])) :: G)
    (Q := fun pre J' => ∃ A c I0, Own 1 3 eN pre (.slice A pre.length c) I0 ∧ J' = (l7, .loop r0) :: (b2, blk [.slice A pre.length c] 38) :: I0)
    h hp hi ?_ ⟨none, 0, [], Own.nil, rfl⟩ (hw.hs (C := cx Tryz.prog hm 0 0 w0 none' fun _ _ => True) (HS.cons rfl (HS.cons rfl (HS.cons rfl (HS.cons rfl (HS.cons rfl HS.last))))))).mono (fun v w' ⟨J', ⟨A9, c9, I9, hO9, hJ'⟩, hw'⟩ => ?_)
  · rintro pre k J2 hk hpre ⟨A8, c8, I8, hO8, hJ⟩ G2; subst hJ; subst hr0
    refine yield_of inferInstance rfl rfl hT hlk rfl rfl hm ?_;refine GE_slots (L' := [(2, ptr b2 0), (7, I k)]) ⟨rfl, rfl, trivial⟩ ?_;refine ZP 1 [] rfl ?_;refine Zv rfl ?_;refine GT_nil ?_;refine GE_beginRound rfl ?_;refine GE_block ?_;refine ZP 5 [2, 3, 4] rfl ?_;refine Zl rfl ag_38 rfl ?_;refine Zv rfl ?_;refine GT_buildSlice (z := [_]) rfl rfl rfl rfl rfl Tryz.underlying38 zc_3 sz_3 (by decide) rfl rfl (fun _ => GR_nil) (fun b10 => ?_);refine GT_append (enc := eN) (l := pre) (m := [(k : Int)]) rfl rfl rfl rfl rfl rfl rfl hO8 (fun w m => RdL.own' m eN_len) Tryz.underlying38 zc_3 sz_3 ⟨rfl, by decide⟩ by_3 ⟨by simp only [List.length_singleton]; omega, by simp only [List.length_singleton]; omega⟩ eN_len eN_one (fun _ _ _ _ => GR_nil) (fun A3 c3 I3 hO3 => ?_);refine ZS [_] [_] rfl rfl sz_38 rfl rfl rfl ?_;refine GT_nil ?_;refine GE_inBlock ?_;refine GE_leave none rfl (fun w hw => ⟨_, ⟨_, rfl, ⟨A3, c3, I3, hO3, rfl⟩, rfl⟩, ?_⟩)
    exact hw.hs (HS.cons rfl (HS.cons rfl (HS.chunk HS.last)))
  · subst hJ'; subst hr0
    refine ⟨_, (b2, blk [.slice A9 (upF S.ps S.qs.length i).length c9] 38) :: (I9 ++ G), ?_, hw'.hs (C := cx Tryz.prog hm 0 0 w0 none' fun _ _ => True) (HS.cons rfl (HS.cons rfl (HS.cons rfl (HS.chunk HS.last)))), ?_⟩
    · intro h; cases h
    refine GE_D (D' := dq [q]) ?_ rfl
    refine GE_inBlock ?_;refine Zq [2] 2 [] rfl rfl ?_;refine Zl rfl ag_38 rfl ?_;refine Zv rfl ?_;refine GT_nil ?_;refine GE_retq Tryz.func78 rfl (fun w hw => ?_)
    exact ⟨(A9, c9, I9), hO9, rfl, hw.hs (C := cx Tryz.prog hm 0 0 w0 none' fun _ _ => True) (HS.chunk HS.last)⟩
theorem C_Collect (h : ShAt w0 S) (hp : PlOk S.ps) (hn : S.qs.length ≤ 256) (hi : -1 ≤ i ∧ i < S.qs.length) (m : SH w0 none' ((bi, blk [I i] 3) :: (bs, blk [ptr S.b 0] 30) :: G) w) :
    Ret Tryz.prog 52 [upV bi bs].toArray w fun v w' => ∃ y : Option Addr × Nat × Items, LineOk S i y ∧ v = .slice y.1 (upF S.ps S.qs.length i).length y.2.1 ∧ SH w0 none' (y.2.2 ++ G) w' := by
  refine Ret_ofH (vs := [_]) hm none' Tryz.func52 rfl Tryz.ntmps52 rfl m ?_
  dsimp only [slotsOf]
  refine Zp 1 [] rfl ?_;refine Zv rfl ?_;refine GT_nil ?_;refine Zp 3 [1] rfl ?_;refine Zv rfl ?_;refine GT_callX rfl rfl rfl rfl rfl rfl rfl rfl rn_78 (fun w m9 => C_AppendSeq (G := G) h hp hn hi m9) (fun _ _ => GR_nil) (fun y hy => ?_);refine Zv rfl ?_;refine GT_nil ?_;refine GE_ret Tryz.func52 rfl (fun w hw => ?_)
  exact ⟨y, hy, rfl, hw.hs (C := cx Tryz.prog hm 0 0 w0 none' fun _ _ => True) (HS.chunk HS.last)⟩
abbrev lineL (S : Shp) (i : Int) : List Int := (upF S.ps S.qs.length i).reverse
theorem C_line (h : ShAt w S) (hp : PlOk S.ps) (hn : S.qs.length ≤ 256) (hi : -1 ≤ i ∧ i < S.qs.length) :
    Con Tryz.prog 30 [ptr S.b 0, I i] w (fun y : Option Addr × Nat × Items => Own 1 3 eN (lineL S i) (.slice y.1 (lineL S i).length y.2.1) y.2.2) (fun y => .slice y.1 (lineL S i).length y.2.1) (fun y => y.2.2) := by
  have hul := upF_len S.ps S.qs.length i
  refine Ret_of (vs := [_, _]) hm none' Tryz.func30 rfl Tryz.ntmps30 rfl ?_
  dsimp only [slotsOf]
  refine Zp 1 [] rfl ?_;refine Zv rfl ?_;refine GT_nil ?_;refine Zp 5 [2, 3] rfl ?_;refine Zr 2 rfl ?_;refine ZC rfl rn_53 (fun w hw => C_up (S := S) (i := i)) (fun _ _ => GR_nil) (fun bb _ => ?_);refine GT_callX rfl rfl rfl rfl rfl rfl rfl rfl rn_52 (fun w m9 => C_Collect (G := []) h hp hn hi m9) (fun _ _ => GR_nil) (fun y hy => ?_);refine Zv rfl ?_;refine GT_nil ?_;refine Zq [5] 2 [1] rfl rfl ?_;refine Zv rfl ?_;refine GT_callX rfl rfl rfl rfl rfl rfl rfl rfl rn_54 (fun w m9 => Prs.C_ReverseI (H1 := []) m9 hy (by omega)) (fun _ _ => GR_nil) (fun I9 hO9 => ?_);refine GT_nil ?_;refine Zp 2 [] rfl ?_;refine Zr 2 rfl ?_;refine GT_nil ?_;refine GE_ret Tryz.func30 rfl (fun w hw => ?_)
  exact ⟨(y.1, y.2.1, I9), by rw [List.length_reverse]; exact hO9, by rw [List.length_reverse], hw.hs (C := cx Tryz.prog hm 0 0 _ none' fun _ _ => True) HS.last⟩
theorem C_Line (h : ShAt w S) (hp : PlOk S.ps) (hn : S.qs.length ≤ 256) (hk : k < S.qs.length) (hz : z = k) :
    Con Tryz.prog 15 [ptr S.b 0, I z] w (fun y : Option Addr × Nat × Items => Own 1 3 eN (lineL S k) (.slice y.1 (lineL S k).length y.2.1) y.2.2) (fun y => .tuple #[.slice y.1 (lineL S k).length y.2.1, I 0]) (fun y => y.2.2) := by
  subst hz
  refine Ret_of (vs := [_, _]) hm none' Tryz.func15 rfl Tryz.ntmps15 rfl ?_
  dsimp only [slotsOf]
  refine Zp 2 [] rfl ?_;refine Zr 2 rfl ?_;refine Zz ?_;refine Zp 2 [1] rfl ?_;refine Zv rfl ?_;refine Zc rfl rn_23 (fun w hw => C_bad (h.sh hw.nil).blk) GR_nil ?_;refine GT_nil ?_;refine GE_cond_f rfl ?_;refine GE_skip ?_;refine GE_seq ?_;refine Zq [0, 1] 4 [2] rfl rfl ?_;refine Zr 2 rfl ?_;refine Zc rfl rn_29 (fun w hw => C_getK (h.sh hw.nil) hk rfl) GR_nil ?_;refine GT_S rfl (V_eqlNilPtr rfl rfl rfl Tryz.underlying76) ?_;refine GT_nil ?_;refine GE_cond_f rfl ?_;refine GE_skip ?_;refine Zq [0, 1] 5 [2] rfl rfl ?_;refine Zr 2 rfl ?_;refine ZC rfl rn_30 (fun w hw => C_line (h.sh hw.nil) hp hn ⟨by omega, by omega⟩) (fun _ _ => GR_nil) (fun y hy => ?_);refine Zr 2 rfl ?_;refine GT_nil ?_;refine GE_ret Tryz.func15 ⟨_, _, rfl, rfl, rfl⟩ (fun w hw => ?_)
  exact ⟨y, hy, rfl, hw.hs (C := cx Tryz.prog hm 0 0 _ none' fun _ _ => True) HS.last⟩
end
end Go.Proofs.YtncleikbggjmjaaGreatDoor.Plg
/- Discs of stampers: the lists of the law, walked. -/
namespace Go.Proofs.YtncleikbggjmjaaGreatDoor.Plg
open Go.Sx Go.Proofs Go.RowKit
open Side (eN eN_len eN_one getD_memT sh_trans)
open Lis (Plt ePlt ePlt_len PlOk Dsc eDsc eDsc_len)
abbrev dV (d : Dsc) : Value := .agg #[I d.ser, I d.a, I d.b, I d.time, I d.held, I d.peak, .bool d.good]
theorem eDsc_one (d : Dsc) : ∀ u ∈ eDsc d, u.oneCell' = true := fun u h => by
  unfold eDsc at h; simp only [List.mem_cons, List.not_mem_nil, or_false] at h
  rcases h with rfl | rfl | rfl | rfl | rfl | rfl | rfl <;> rfl
def ofD (side : Int) (d : Dsc) : Int := if side = 0 then d.a - 1 else d.b - 1
def DOk (d : Dsc) : Prop := (1 ≤ d.a ∧ d.a ≤ 1000) ∧ (1 ≤ d.b ∧ d.b ≤ 1000)
section
variable {w : World} {A A2 : Option Addr} {c c2 : Nat} {l l2 : List Int} {x side : Int} {d : Dsc} {ds : List Dsc}
theorem C_Of (h : DOk d) : Con0 Tryz.prog 16 [dV d, I side] w (I (ofD side d)) := by
  obtain ⟨⟨h1, h2⟩, h3, h4⟩ := h
  refine Ret_of (vs := [_, _]) hm none' Tryz.func16 rfl Tryz.ntmps16 rfl ?_
  dsimp only [slotsOf]
  refine Zp 2 [0] rfl ?_;refine Zx [_, _, _, _, _, _, _] rfl rfl fun b2 => ?_;refine Zv rfl ?_;refine Zz ?_;refine Zp 2 [] rfl ?_;refine Zv rfl ?_;refine GT_S rfl (V_eql rfl rfl rfl) ?_;refine GT_nil ?_;refine GE_cond rfl (fun q1 => ?_) (fun q1 => ?_)
  · refine Zq [2] 4 [] rfl rfl ?_;refine Zg rfl fo_47_1 rfl ag_2 rfl ?_;refine GT_S rfl (V_sub rfl rfl rfl (wrap_i64 (show -9223372036854775808 ≤ d.a - 1 ∧ d.a - 1 ≤ 9223372036854775807 by omega))) ?_;refine Zv rfl ?_;refine GT_nil ?_;refine GE_ret Tryz.func16 rfl (fun w hw => ⟨?_, hw.nil⟩)
    rw [ofD, if_pos q1]
  · refine GE_skip ?_;refine Zq [2] 4 [] rfl rfl ?_;refine Zg rfl fo_47_2 rfl ag_2 rfl ?_;refine GT_S rfl (V_sub rfl rfl rfl (wrap_i64 (show -9223372036854775808 ≤ d.b - 1 ∧ d.b - 1 ≤ 9223372036854775807 by omega))) ?_;refine Zv rfl ?_;refine GT_nil ?_;refine GE_ret Tryz.func16 rfl (fun w hw => ⟨?_, hw.nil⟩)
    rw [ofD, if_neg q1]
theorem C_contains (h : RdL w 1 eN A l) (hl : l.length ≤ 100000) : Con0 Tryz.prog 11 [.slice A l.length c, I x] w (.bool (decide (x ∈ l))) := by
  refine Ret_of (vs := [_, _]) hm none' Tryz.func11 rfl Tryz.ntmps11 rfl ?_
  dsimp only [slotsOf]
  refine Zp 1 [] rfl ?_;refine Zv rfl ?_;refine Zz ?_;refine Zp 1 [] rfl ?_;refine Zv rfl ?_;refine GT_nil ?_;refine GE_block ?_;refine GE_to (GE_loop (ι := Nat) (fun k => l.length - k) (fun k => [(0, .slice A l.length c), (1, I x), (5, I k)]) (fun k => []) (fun k => k ≤ l.length ∧ ∀ j, j < k → l.getD j default ≠ x) ?_ 0 ?_) ⟨rfl, rfl, rfl, trivial⟩ HS.nil
  · rintro k ⟨hk, hall⟩ ih
    refine GE_seq ?_;refine Zp 4 [] rfl ?_;refine Zr 2 rfl ?_;refine Zn rfl Tryz.underlying43 ?_;refine GT_S rfl (V_lss rfl rfl rfl) ?_;refine GT_nil ?_;refine GE_cond rfl (fun q1 => ?_) (fun q1 => ?_)
    · have hkl : k < l.length := (by omega)
      refine GE_skip ?_;refine GE_seq ?_;refine GE_block ?_;refine Zq [0, 1, 5] 6 [] rfl rfl ?_;refine Zr 2 rfl ?_;refine GT_S rfl (V_index rfl rfl rfl Tryz.underlying43 sz_2 (k := k) rfl hkl (h.isSome hkl)) ?_;refine ZL rfl ag_2 (h.at0 noM hkl rfl) ?_;refine Zv rfl ?_;refine GT_S rfl (V_eql rfl rfl rfl) ?_;refine GT_nil ?_;refine GE_cond rfl (fun q2 => ?_) (fun q2 => ?_)
      · refine Zq [] 1 [] rfl rfl ?_;refine Zv rfl ?_;refine GT_nil ?_;refine GE_ret Tryz.func11 rfl (fun w hw => ⟨?_, hw.nil⟩)
        exact congrArg Value.bool (decide_eq_true (q2 ▸ getD_memT hkl)).symm
      · refine GE_skip ?_;refine GE_inBlock ?_;refine Zs [0, 1, 5] rfl ?_;refine ZP 3 [2] rfl ?_;refine Zv rfl ?_;refine Za rfl (by omega) ?_;refine Zw rfl ?_;refine GT_nil ?_
        exact GE_to (ih (k + 1) ⟨by omega, fun j hj => by by_cases e : j = k; (subst e; exact q2); exact hall j (by omega)⟩ (by omega)) ⟨rfl, rfl, rfl, trivial⟩ HS.nil
    · obtain rfl : k = l.length := (by omega)
      refine GE_exit rfl ?_;refine Zq [] 1 [] rfl rfl ?_;refine Zv rfl ?_;refine GT_nil ?_;refine GE_ret Tryz.func11 rfl (fun w hw => ⟨?_, hw.nil⟩)
      exact congrArg Value.bool (decide_eq_false (fun q => by obtain ⟨j, hj, hx⟩ := List.getElem_of_mem q; exact hall j hj (by simp [List.getD, hj, hx]))).symm
  · exact ⟨Nat.zero_le _, fun j hj => by omega⟩
theorem C_numbers (h : RdL w 1 eN A l) (h2 : RdL w 1 eN A2 l2) (hl : l.length ≤ 100000) (hl2 : l2.length ≤ 100000) : Con0 Tryz.prog 14 [.slice A l.length c, .slice A2 l2.length c2] w (.bool (decide (l = l2))) := by
  refine Ret_of (vs := [_, _]) hm none' Tryz.func14 rfl Tryz.ntmps14 rfl ?_
  dsimp only [slotsOf]
  refine Zp 1 [] rfl ?_;refine Zv rfl ?_;refine Zz ?_;refine Zp 5 [] rfl ?_;refine Zv rfl ?_;refine Zn rfl Tryz.underlying43 ?_;refine Zv rfl ?_;refine Zn rfl Tryz.underlying43 ?_;refine GT_S rfl (V_neq rfl rfl rfl) ?_;refine GT_nil ?_;refine GE_condNot rfl (fun q0 => ?_) (fun q0 => ?_)
  · refine Zq [] 1 [] rfl rfl ?_;refine Zv rfl ?_;refine GT_nil ?_;refine GE_ret Tryz.func14 rfl (fun w hw => ⟨?_, hw.nil⟩)
    exact congrArg Value.bool (decide_eq_false (fun q => by subst q; exact q0 rfl)).symm
  · have hll : l.length = l2.length := (by omega)
    refine GE_skip ?_;refine GE_seq ?_;refine Zq [0, 1] 1 [] rfl rfl ?_;refine Zv rfl ?_;refine GT_nil ?_;refine GE_block ?_;refine GE_to (GE_loop (ι := Nat) (fun k => l.length - k) (fun k => [(0, .slice A l.length c), (1, .slice A2 l2.length c2), (5, I k)]) (fun k => []) (fun k => k ≤ l.length ∧ ∀ j, j < k → l.getD j default = l2.getD j default) ?_ 0 ?_) ⟨rfl, rfl, rfl, trivial⟩ HS.nil
    · rintro k ⟨hk, hall⟩ ih
      refine GE_seq ?_;refine Zp 4 [] rfl ?_;refine Zr 2 rfl ?_;refine Zn rfl Tryz.underlying43 ?_;refine GT_S rfl (V_lss rfl rfl rfl) ?_;refine GT_nil ?_;refine GE_cond rfl (fun q1 => ?_) (fun q1 => ?_)
      · have hkl : k < l.length := (by omega); have hkl2 : k < l2.length := (by omega)
        refine GE_skip ?_;refine GE_seq ?_;refine GE_block ?_;refine GE_seq ?_;refine Zs [0, 1, 5] rfl ?_;refine GE_drawn (.st 0 (.st 1 (.st 2 (.st 3 (.st 4 (.st 5 (.st 6 (.st 7 (.st 8 .nil))))))))) [] (by decide +kernel) ?_;refine Zr 2 rfl ?_;refine GT_S rfl (V_index rfl rfl rfl Tryz.underlying43 sz_2 (k := k) rfl hkl (h.isSome hkl)) ?_;refine ZL rfl ag_2 (h.at0 noM hkl rfl) ?_;refine Zr 2 rfl ?_;refine GT_S rfl (V_index rfl rfl rfl Tryz.underlying43 sz_2 (k := k) rfl hkl2 (h2.isSome hkl2)) ?_;refine ZL rfl ag_2 (h2.at0 noM hkl2 rfl) ?_;refine GT_S rfl (V_neq rfl rfl rfl) ?_;refine GT_nil ?_;refine GE_condNot rfl (fun q2 => ?_) (fun q2 => ?_)
        · refine Zq [] 1 [] rfl rfl ?_;refine Zv rfl ?_;refine GT_nil ?_;refine GE_ret Tryz.func14 rfl (fun w hw => ⟨?_, hw.nil⟩)
          exact congrArg Value.bool (decide_eq_false (fun q => by subst q; exact q2 rfl)).symm
        · refine GE_skip ?_;refine GE_inBlock ?_;refine Zs [0, 1, 5] rfl ?_;refine ZP 3 [2] rfl ?_;refine Zv rfl ?_;refine Za rfl (by omega) ?_;refine Zw rfl ?_;refine GT_nil ?_
          exact GE_to (ih (k + 1) ⟨by omega, fun j hj => by by_cases e : j = k; (subst e; exact q2); exact hall j (by omega)⟩ (by omega)) ⟨rfl, rfl, rfl, trivial⟩ HS.nil
      · obtain rfl : k = l.length := (by omega)
        refine GE_exit rfl ?_;refine Zq [] 1 [] rfl rfl ?_;refine Zv rfl ?_;refine GT_nil ?_;refine GE_ret Tryz.func14 rfl (fun w hw => ⟨?_, hw.nil⟩)
        exact congrArg Value.bool (decide_eq_true (List.ext_getElem hll fun j h1 h2 => by have := hall j h1; simpa [List.getD, h1, h2] using this)).symm
    · exact ⟨Nat.zero_le _, fun j hj => by omega⟩
def bad1 (v s : Int) (ps : List Int) : List Int := (ps.filter fun q => decide (v = q)).map fun _ => s
def badL (side : Int) (ps : List Int) (ds : List Dsc) : List Int := ds.flatMap fun d => bad1 (ofD side d) d.ser ps
theorem bad1_snoc (v s : Int) (ps : List Int) (q : Int) : bad1 v s (ps ++ [q]) = bad1 v s ps ++ if v = q then [s] else [] := by
  unfold bad1; rw [List.filter_append, List.map_append]
  congr 1
  by_cases h : v = q <;> simp [h]
theorem bad1_len (v s : Int) (ps : List Int) : (bad1 v s ps).length ≤ ps.length := by
  unfold bad1; rw [List.length_map]; exact List.length_filter_le _ _
theorem badL_len (side : Int) (ps : List Int) : ∀ ds : List Dsc, (badL side ps ds).length ≤ ds.length * ps.length
  | [] => by simp [badL]
  | d :: ds => by
    have h1 := badL_len side ps ds
    have h2 := bad1_len (ofD side d) d.ser ps
    unfold badL at h1 ⊢
    rw [List.flatMap_cons, List.length_append, List.length_cons, Nat.succ_mul]; omega
theorem badL_snoc (side : Int) (ps : List Int) (ds : List Dsc) (d : Dsc) : badL side ps (ds ++ [d]) = badL side ps ds ++ bad1 (ofD side d) d.ser ps := by
  unfold badL; rw [List.flatMap_append]; simp
theorem takeS {α : Type} [Inhabited α] {l : List α} {k : Nat} (h : k < l.length) : l.take (k + 1) = l.take k ++ [l.getD k default] := by
  rw [List.take_succ_eq_append_getElem h]; simp [List.getD, h]
set_option maxHeartbeats 1000000 in
theorem C_badS (h : RdL w 7 eDsc A ds) (h2 : RdL w 1 eN A2 l2) (hd : ds.length ≤ 16) (hl2 : l2.length ≤ 256) (hok : ∀ d ∈ ds, DOk d) :
    Con Tryz.prog 10 [.slice A ds.length c, I side, .slice A2 l2.length c2] w (fun y : Option Addr × Nat × Items => Own 1 2 eN (badL side l2 ds) (.slice y.1 (badL side l2 ds).length y.2.1) y.2.2) (fun y => .slice y.1 (badL side l2 ds).length y.2.1) (fun y => y.2.2) := by
  refine Ret_of (vs := [_, _, _]) hm none' Tryz.func10 rfl Tryz.ntmps10 rfl ?_
  dsimp only [slotsOf]
  refine Zp 1 [] rfl ?_;refine Zv rfl ?_;refine GT_nil ?_;refine Zp 1 [] rfl ?_;refine Zv rfl ?_;refine Zz ?_;refine Zp 1 [] rfl ?_;refine Zv rfl ?_;refine GT_nil ?_;refine GE_block ?_;refine GE_to (GE_loop (ι := Nat × (Option Addr × Nat × Items)) (fun z => ds.length - z.1) (fun z => [(0, .slice A ds.length c), (1, I side), (2, .slice A2 l2.length c2), (7, .slice z.2.1 (badL side l2 (ds.take z.1)).length z.2.2.1), (8, I z.1)]) (fun z => z.2.2.2 ++ []) (fun z => z.1 ≤ ds.length ∧ Own 1 2 eN (badL side l2 (ds.take z.1)) (.slice z.2.1 (badL side l2 (ds.take z.1)).length z.2.2.1) z.2.2.2) ?_ (0, (none, 0, [])) ?_) ⟨rfl, rfl, rfl, rfl, rfl, trivial⟩ HS.nil
  · rintro ⟨k, u⟩ ⟨hk, hU⟩ ih; dsimp only at hk hU ih ⊢
    refine GE_seq ?_;refine Zp 4 [] rfl ?_;refine Zr 2 rfl ?_;refine Zn rfl Tryz.underlying36 ?_;refine GT_S rfl (V_lss rfl rfl rfl) ?_;refine GT_nil ?_;refine GE_cond rfl (fun q1 => ?_) (fun q1 => ?_)
    · have hkl : k < ds.length := (by omega); have hbl := badL_len side l2 (ds.take k); have hbm : (ds.take k).length * l2.length ≤ 16 * 256 := (Nat.mul_le_mul (by rw [List.length_take]; omega) hl2)
      refine GE_skip ?_;refine GE_seq ?_;refine GE_block ?_;refine Zq [0, 1, 2, 7, 8] 1 [] rfl rfl ?_;refine Zv rfl ?_;refine GT_nil ?_;refine GE_block ?_;refine GE_to (GE_loop (ι := Nat × List Int × (Option Addr × Nat × Items)) (fun z => l2.length - z.1) (fun z => [(0, .slice A ds.length c), (1, I side), (2, .slice A2 l2.length c2), (7, .slice z.2.2.1 z.2.1.length z.2.2.2.1), (8, I k), (9, I z.1)]) (fun z => z.2.2.2.2 ++ []) (fun z => z.1 ≤ l2.length ∧ z.2.1 = badL side l2 (ds.take k) ++ bad1 (ofD side (ds.getD k default)) (ds.getD k default).ser (l2.take z.1) ∧ Own 1 2 eN z.2.1 (.slice z.2.2.1 z.2.1.length z.2.2.2.1) z.2.2.2.2) ?_ (0, badL side l2 (ds.take k), u) ?_) ⟨rfl, rfl, rfl, rfl, rfl, rfl, trivial⟩ (HS.chunk HS.nil)
      · rintro ⟨j, lz, u2⟩ ⟨hj, hlz, hU2⟩ ih2; dsimp only at hj hlz hU2 ih2 ⊢
        refine GE_seq ?_;refine Zp 4 [] rfl ?_;refine Zr 2 rfl ?_;refine Zn rfl Tryz.underlying38 ?_;refine GT_S rfl (V_lss rfl rfl rfl) ?_;refine GT_nil ?_;refine GE_cond rfl (fun q2 => ?_) (fun q2 => ?_)
        · have hjl : j < l2.length := (by omega); have hb1 := bad1_len (ofD side (ds.getD k default)) (ds.getD k default).ser (l2.take j); rw [List.length_take] at hb1; have hlzl : lz.length ≤ 5000 := (by rw [hlz, List.length_append]; omega)
          refine GE_skip ?_;refine GE_seq ?_;refine GE_block ?_;refine GE_seq ?_;refine Zs [0, 1, 2, 7, 8, 9] rfl ?_;refine GE_drawn (.st 0 (.st 1 (.st 2 (.st 3 (.st 4 (.st 6 (.st 7 (.st 8 (.st 9 (.ld 5 [6, 7, 8, 9] (.st 10 .nil))))))))))) [5] (by decide +kernel) ?_;refine Zr 2 rfl ?_;refine GT_S rfl (V_index rfl rfl rfl Tryz.underlying36 sz_47 (k := k) rfl hkl (h.isSome hkl)) ?_;refine GT_S rfl (V_loadN (vs := [_, _, _, _, _, _, _]) rfl rfl ag_47 sz_47 rfl (show CellsAt _ _ _ (eDsc (ds.getD k default)) from h.ats noM hkl)) ?_;refine Zr 3 rfl ?_;refine GT_S rfl (V_index rfl rfl rfl Tryz.underlying38 sz_3 (k := j) rfl hjl (h2.isSome hjl)) ?_;refine ZL rfl ag_3 (h2.at0 noM hjl rfl) ?_;refine Zc rfl rn_16 (fun w hw => C_Of (hok _ (getD_memT hkl))) (Rv rfl rfl (Rv rfl rfl (GR_S rfl rfl (V_index rfl rfl rfl Tryz.underlying38 sz_3 (k := j) rfl hjl (h2.isSome hjl)) (GR_S rfl rfl (V_load rfl rfl ag_3 (h2.at0 noM hjl rfl)) GR_nil)))) ?_;refine GT_S rfl (V_eql rfl rfl rfl) ?_;refine GT_nil ?_;refine GE_cond rfl (fun q3 => ?_) (fun q3 => ?_)
          · refine Zs [0, 1, 2, 7, 8, 9] rfl ?_;refine ZP 9 [6, 7, 8] rfl ?_;refine Zr 3 rfl ?_;refine GT_S rfl (V_index rfl rfl rfl Tryz.underlying36 sz_47 (k := k) rfl hkl (h.isSome hkl)) ?_;refine GT_S rfl (V_fieldA rfl rfl fo_47_0) ?_;refine ZL rfl ag_2 (h.at0 noM hkl rfl) ?_;refine GT_buildSlice (z := [_]) rfl rfl rfl rfl rfl Tryz.underlying43 zc_2 sz_2 (by decide) rfl rfl (fun _ => GR_nil) (fun b39 => ?_);refine GT_append (enc := eN) (m := [(ds.getD k default).ser]) rfl rfl rfl rfl rfl rfl rfl hU2 (fun w m => RdL.own' m eN_len) Tryz.underlying43 zc_2 sz_2 ⟨rfl, by decide⟩ by_2 ⟨by simp only [List.length_singleton]; omega, by simp only [List.length_singleton]; omega⟩ eN_len eN_one (fun _ _ _ _ => GR_nil) (fun A3 c3 I3 hO3 => ?_);refine Zw rfl ?_;refine GT_nil ?_;refine GE_inBlock ?_;refine Zs [0, 1, 2, 7, 8, 9] rfl ?_;refine ZP 3 [2] rfl ?_;refine Zv rfl ?_;refine Za rfl (by omega) ?_;refine Zw rfl ?_;refine GT_nil ?_
            first
              | exact GE_to (ih2 (j + 1, lz ++ [(ds.getD k default).ser], (A3, c3, I3)) ⟨by dsimp only; omega, by dsimp only; rw [takeS hjl, bad1_snoc, if_pos q3, ← List.append_assoc, hlz], hO3⟩ (by dsimp only; omega)) ⟨rfl, rfl, rfl, rfl, rfl, rfl, trivial⟩ (HS.chunk HS.nil)
              | exact GE_to (ih2 (j + 1, lz, u2) ⟨by dsimp only; omega, by dsimp only; rw [takeS hjl, bad1_snoc, if_neg q3, List.append_nil]; exact hlz, hU2⟩ (by dsimp only; omega)) ⟨rfl, rfl, rfl, rfl, rfl, rfl, trivial⟩ (HS.chunk HS.nil)
          · refine GE_skip ?_;refine GE_inBlock ?_;refine Zs [0, 1, 2, 7, 8, 9] rfl ?_;refine ZP 3 [2] rfl ?_;refine Zv rfl ?_;refine Za rfl (by omega) ?_;refine Zw rfl ?_;refine GT_nil ?_
            first
              | exact GE_to (ih2 (j + 1, lz ++ [(ds.getD k default).ser], (A3, c3, I3)) ⟨by dsimp only; omega, by dsimp only; rw [takeS hjl, bad1_snoc, if_pos q3, ← List.append_assoc, hlz], hO3⟩ (by dsimp only; omega)) ⟨rfl, rfl, rfl, rfl, rfl, rfl, trivial⟩ (HS.chunk HS.nil)
              | exact GE_to (ih2 (j + 1, lz, u2) ⟨by dsimp only; omega, by dsimp only; rw [takeS hjl, bad1_snoc, if_neg q3, List.append_nil]; exact hlz, hU2⟩ (by dsimp only; omega)) ⟨rfl, rfl, rfl, rfl, rfl, rfl, trivial⟩ (HS.chunk HS.nil)
        · obtain rfl : j = l2.length := (by omega); rw [List.take_length] at hlz; have hlz2 : lz = badL side l2 (ds.take (k + 1)) := (by rw [takeS hkl, badL_snoc]; exact hlz); subst hlz2
          refine GE_exit rfl ?_;refine GE_inBlock ?_;refine Zs [0, 1, 2, 7, 8] rfl ?_;refine ZP 3 [2] rfl ?_;refine Zv rfl ?_;refine Za rfl (by omega) ?_;refine Zw rfl ?_;refine GT_nil ?_
          exact GE_to (ih (k + 1, u2) ⟨by dsimp only; omega, hU2⟩ (by dsimp only; omega)) ⟨rfl, rfl, rfl, rfl, rfl, trivial⟩ (HS.chunk HS.nil)
      · exact ⟨Nat.zero_le _, (List.append_nil _).symm, hU⟩
    · obtain rfl : k = ds.length := (by omega); rw [List.take_length] at hU
      refine GE_exit rfl ?_;refine Zq [7] 2 [] rfl rfl ?_;refine Zr 2 rfl ?_;refine GT_nil ?_;refine GE_ret Tryz.func10 rfl (fun w hw => ?_)
      exact ⟨u, hU, by rw [List.take_length], hw.hs (C := cx Tryz.prog hm 0 0 _ none' fun _ _ => True) HS.last⟩
  · exact ⟨Nat.zero_le _, Own.nil⟩
end
end Go.Proofs.YtncleikbggjmjaaGreatDoor.Plg
/- Discs that are pressed with the stampers of a shop, walked. -/
namespace Go.Proofs.YtncleikbggjmjaaGreatDoor.Plg
open Go.Sx Go.Proofs Go.RowKit
open Side (eN eN_len eN_one getD_memT sh_trans)
open Lis (Plt ePlt ePlt_len PlOk Dsc eDsc eDsc_len)
abbrev ePr (x : Int × Int) : List Value := [.int .u8 x.1, .int .u8 x.2]
theorem ePr_len (x : Int × Int) : (ePr x).length = 2 := rfl
def stN (ps : List Plt) : Nat → List Int
  | 0 => []
  | k + 1 => stN ps k ++ if (ps.getD k default).kind = 3 then [(k : Int) + 1] else []
theorem stN_len (ps : List Plt) : ∀ k, (stN ps k).length ≤ k
  | 0 => Nat.le_refl _
  | k + 1 => by
    rw [stN, List.length_append]
    have := stN_len ps k
    split
    · rw [List.length_singleton]; omega
    · rw [List.length_nil]; omega
theorem stN_mem {ps : List Plt} {x : Int} : ∀ {k}, x ∈ stN ps k → ∃ j : Nat, j < k ∧ x = (j : Int) + 1 ∧ (ps.getD j default).kind = 3
  | 0, h => by cases h
  | k + 1, h => by
    rw [stN, List.mem_append] at h
    rcases h with h | h
    · obtain ⟨j, h1, h2⟩ := stN_mem h; exact ⟨j, by omega, h2⟩
    · split at h
      · rename_i hk; rw [List.mem_singleton] at h; exact ⟨k, Nat.lt_succ_self _, h, hk⟩
      · cases h
def pk (s : List Int) (x : Int) : Int := s.getD (x.toNat % s.length) default
def mkD (s : List Int) (pr : List (Int × Int)) (k : Nat) : Dsc := ⟨(k : Int) + 1, pk s (pr.getD k default).1, pk s (pr.getD k default).2, 0, 0, 0, false⟩
def dN (s : List Int) (pr : List (Int × Int)) (n : Nat) : List Dsc := (List.range n).map (mkD s pr)
theorem dN_snoc (s : List Int) (pr : List (Int × Int)) (n : Nat) : dN s pr (n + 1) = dN s pr n ++ [mkD s pr n] := by
  unfold dN; rw [List.range_succ, List.map_append]; rfl
theorem dN_len (s : List Int) (pr : List (Int × Int)) (n : Nat) : (dN s pr n).length = n := by unfold dN; simp
def manyD (ps : List Plt) (pr : List (Int × Int)) : Nat := if stN ps ps.length = [] then 0 else min pr.length 16
def dscL (ps : List Plt) (pr : List (Int × Int)) : List Dsc := dN (stN ps ps.length) pr (manyD ps pr)
theorem many_T {ps : List Plt} {pr : List (Int × Int)} {k : Nat} (h1 : k < pr.length) (h2 : k < 16) (h3 : 0 < (stN ps ps.length).length) : k + 1 ≤ manyD ps pr := by
  unfold manyD
  rw [if_neg (by intro e; rw [e] at h3; exact Nat.lt_irrefl _ h3)]; omega
theorem many_F {ps : List Plt} {pr : List (Int × Int)} {k : Nat} (hk : k ≤ manyD ps pr) (h : k < pr.length ∧ k < 16 ∧ 0 < (stN ps ps.length).length → False) : k = manyD ps pr := by
  unfold manyD at hk ⊢
  split at hk
  · rename_i e; rw [if_pos e]; omega
  · rename_i e
    rw [if_neg e]
    have : 0 < (stN ps ps.length).length := List.length_pos_iff.2 e
    have h' : ¬ (k < pr.length ∧ k < 16 ∧ 0 < (stN ps ps.length).length) := h
    omega
theorem tmodN {x : Int} (h : 0 ≤ x) (n : Nat) : x.tmod n = ((x.toNat % n : Nat) : Int) := by
  obtain ⟨m, rfl⟩ : ∃ m : Nat, x = m := ⟨x.toNat, by omega⟩
  rfl
section
variable {w : World} {A A2 : Option Addr} {c c2 : Nat} {ps : List Plt} {pr : List (Int × Int)}
set_option maxHeartbeats 1000000 in
theorem C_pressed (h : RdL w 7 ePlt A ps) (h2 : RdL w 2 ePr A2 pr) (hn : ps.length ≤ 256) (hb : ∀ x ∈ pr, (0 ≤ x.1 ∧ x.1 ≤ 255) ∧ (0 ≤ x.2 ∧ x.2 ≤ 255)) :
    Con Tryz.prog 8 [.slice A ps.length c, .slice A2 pr.length c2, I 16] w (fun y : Option Addr × Nat × Items => Own 7 47 eDsc (dscL ps pr) (.slice y.1 (dscL ps pr).length y.2.1) y.2.2) (fun y => .slice y.1 (dscL ps pr).length y.2.1) (fun y => y.2.2) := by
  refine Ret_of (vs := [_, _, _]) hm none' Tryz.func8 rfl Tryz.ntmps8 rfl ?_
  dsimp only [slotsOf]
  refine Zp 1 [] rfl ?_;refine Zv rfl ?_;refine GT_nil ?_;refine Zp 1 [] rfl ?_;refine Zv rfl ?_;refine Zz ?_;refine Zp 1 [] rfl ?_;refine Zv rfl ?_;refine GT_nil ?_;refine GE_block ?_;refine GE_to (GE_loop (ι := Nat × List Int × (Option Addr × Nat × Items)) (fun z => ps.length - z.1) (fun z => [(0, .slice A ps.length c), (1, .slice A2 pr.length c2), (2, I 16), (7, .slice z.2.2.1 z.2.1.length z.2.2.2.1), (8, I z.1)]) (fun z => z.2.2.2.2 ++ []) (fun z => z.1 ≤ ps.length ∧ z.2.1 = stN ps z.1 ∧ Own 1 2 eN z.2.1 (.slice z.2.2.1 z.2.1.length z.2.2.2.1) z.2.2.2.2) ?_ (0, [], (none, 0, [])) ?_) ⟨rfl, rfl, rfl, rfl, rfl, trivial⟩ HS.nil
  · rintro ⟨k, s, u⟩ ⟨hk, hs, hU⟩ ih; dsimp only at hk hs hU ih ⊢
    refine GE_seq ?_;refine Zp 4 [] rfl ?_;refine Zr 2 rfl ?_;refine Zn rfl Tryz.underlying34 ?_;refine GT_S rfl (V_lss rfl rfl rfl) ?_;refine GT_nil ?_;refine GE_cond rfl (fun q1 => ?_) (fun q1 => ?_)
    · have hkl : k < ps.length := (by omega); have hsl := stN_len ps k; rw [← hs] at hsl
      refine GE_skip ?_;refine GE_seq ?_;refine GE_block ?_;refine Zq [0, 1, 2, 7, 8] 6 [] rfl rfl ?_;refine Zr 2 rfl ?_;refine GT_S rfl (V_index rfl rfl rfl Tryz.underlying34 sz_78 (k := k) rfl hkl (h.isSome hkl)) ?_;refine GT_S rfl (V_fieldA rfl rfl fo_78_0) ?_;refine ZL rfl ag_3 (h.at0 noM hkl rfl) ?_;refine GT_S rfl (V_eql rfl rfl rfl) ?_;refine GT_nil ?_;refine GE_cond rfl (fun q2 => ?_) (fun q2 => ?_)
      · refine Zs [0, 1, 2, 7, 8] rfl ?_;refine ZP 6 [3, 4, 5] rfl ?_;refine Zr 2 rfl ?_;refine Za rfl (by omega) ?_;refine GT_buildSlice (z := [_]) rfl rfl rfl rfl rfl Tryz.underlying43 zc_2 sz_2 (by decide) rfl rfl (fun _ => GR_nil) (fun b26 => ?_);refine GT_append (enc := eN) (m := [(k : Int) + 1]) rfl rfl rfl rfl rfl rfl rfl hU (fun w m => RdL.own' m eN_len) Tryz.underlying43 zc_2 sz_2 ⟨rfl, by decide⟩ by_2 ⟨by simp only [List.length_singleton]; omega, by simp only [List.length_singleton]; omega⟩ eN_len eN_one (fun _ _ _ _ => GR_nil) (fun A3 c3 I3 hO3 => ?_);refine Zw rfl ?_;refine GT_nil ?_;refine GE_inBlock ?_;refine Zs [0, 1, 2, 7, 8] rfl ?_;refine ZP 3 [2] rfl ?_;refine Zv rfl ?_;refine Za rfl (by omega) ?_;refine Zw rfl ?_;refine GT_nil ?_
        first
          | exact GE_to (ih (k + 1, s ++ [(k : Int) + 1], (A3, c3, I3)) ⟨by dsimp only; omega, by dsimp only; rw [stN, if_pos q2, hs], hO3⟩ (by dsimp only; omega)) ⟨rfl, rfl, rfl, rfl, rfl, trivial⟩ (HS.chunk HS.nil)
          | exact GE_to (ih (k + 1, s, u) ⟨by dsimp only; omega, by dsimp only; rw [stN, if_neg q2, List.append_nil, hs], hU⟩ (by dsimp only; omega)) ⟨rfl, rfl, rfl, rfl, rfl, trivial⟩ (HS.chunk HS.nil)
      · refine GE_skip ?_;refine GE_inBlock ?_;refine Zs [0, 1, 2, 7, 8] rfl ?_;refine ZP 3 [2] rfl ?_;refine Zv rfl ?_;refine Za rfl (by omega) ?_;refine Zw rfl ?_;refine GT_nil ?_
        first
          | exact GE_to (ih (k + 1, s ++ [(k : Int) + 1], (A3, c3, I3)) ⟨by dsimp only; omega, by dsimp only; rw [stN, if_pos q2, hs], hO3⟩ (by dsimp only; omega)) ⟨rfl, rfl, rfl, rfl, rfl, trivial⟩ (HS.chunk HS.nil)
          | exact GE_to (ih (k + 1, s, u) ⟨by dsimp only; omega, by dsimp only; rw [stN, if_neg q2, List.append_nil, hs], hU⟩ (by dsimp only; omega)) ⟨rfl, rfl, rfl, rfl, rfl, trivial⟩ (HS.chunk HS.nil)
    · obtain rfl : k = ps.length := (by omega); have hsl := stN_len ps ps.length; subst hs
      refine GE_exit rfl ?_;refine Zq [1, 2, 7] 1 [] rfl rfl ?_;refine Zv rfl ?_;refine Zz ?_;refine Zp 1 [] rfl ?_;refine Zv rfl ?_;refine GT_nil ?_;refine GE_block ?_;refine GE_to (GE_loop (ι := Nat × (Option Addr × Nat × Items)) (fun z => 16 - z.1) (fun z => [(1, .slice A2 pr.length c2), (2, I 16), (7, .slice u.1 (stN ps ps.length).length u.2.1), (9, .slice z.2.1 (dN (stN ps ps.length) pr z.1).length z.2.2.1), (10, I z.1)]) (fun z => z.2.2.2 ++ (u.2.2 ++ [])) (fun z => z.1 ≤ manyD ps pr ∧ Own 7 47 eDsc (dN (stN ps ps.length) pr z.1) (.slice z.2.1 (dN (stN ps ps.length) pr z.1).length z.2.2.1) z.2.2.2) ?_ (0, (none, 0, [])) ?_) ⟨rfl, rfl, rfl, rfl, rfl, trivial⟩ HS.all
      · rintro ⟨k, v⟩ ⟨hk, hV⟩ ih2; dsimp only at hk hV ih2 ⊢; have hdl := dN_len (stN ps ps.length) pr k
        refine GE_seq ?_;refine Zp 14 [] rfl ?_;refine Zr 2 rfl ?_;refine Zn rfl Tryz.underlying26 ?_;refine GT_S rfl (V_lss rfl rfl rfl) ?_;refine Zv rfl ?_;refine GT_split (d := 32) rfl (fun q3 => ?_) (fun q3 => ?_)
        · refine Zr 2 rfl ?_;refine GT_S rfl (V_lss rfl rfl rfl) ?_;refine Zr 2 rfl ?_;refine GT_split (d := 37) rfl (fun q4 => ?_) (fun q4 => ?_)
          · refine Zv rfl ?_;refine Zn rfl Tryz.underlying43 ?_;refine GT_S rfl (V_gtr rfl rfl rfl) ?_;refine Zv rfl ?_;refine GT_nil ?_;refine GE_cond rfl (fun q5 => ?_) (fun q5 => ?_)
            · have hkp : k < pr.length := (by omega); have hs0 : 0 < (stN ps ps.length).length := (by omega); have hbk := hb _ (getD_memT hkp)
              refine GE_skip ?_;refine GE_seq ?_;refine GE_block ?_;refine Zs [1, 2, 7, 9, 10, 33, 34, 35, 38, 39, 40] rfl ?_;refine GE_drawn (.st 0 (.st 1 (.st 2 (.st 3 (.st 4 (.st 5 (.st 6 (.st 7 (.st 8 (.st 9 (.st 10 (.st 11 (.st 12 (.st 13 (.st 14 (.st 15 (.st 16 (.st 17 (.st 18 (.st 19 (.st 20 (.st 21 (.st 22 (.st 23 (.st 24 (.st 25 (.st 26 (.st 27 (.ld 28 [0] (.ld 29 [] (.ld 30 [] .nil))))))))))))))))))))))))))))))) [28, 29, 30] (by decide +kernel) ?_;refine Zr 2 rfl ?_;refine Za rfl (by omega) ?_;refine Zr 3 rfl ?_;refine GT_S rfl (V_index rfl rfl rfl Tryz.underlying26 sz_82 (k := k) rfl hkp (h2.isSome hkp)) ?_;refine GT_S rfl (V_indexArrA (kk := 0) rfl rfl rfl Tryz.underlying82 sz_5 rfl (by omega)) ?_;refine ZL rfl ag_5 (h2.at0 noM hkp rfl) ?_;refine GT_S rfl (V_convII rfl rfl (by rw [Tryz.underlying5]; rfl) Tryz.underlying3 (wrap_i64 (by omega))) ?_;refine Zv rfl ?_;refine Zn rfl Tryz.underlying43 ?_;refine GT_S rfl (V_rem rfl rfl rfl (by omega)) ?_;refine GT_S rfl (V_index rfl rfl rfl Tryz.underlying43 sz_2 (k := (pr.getD k default).1.toNat % (stN ps ps.length).length) (tmodN hbk.1.1 _) (Nat.mod_lt _ hs0) (hU.isSome hs0)) ?_;refine ZL rfl ag_2 (CellAt.own0 hU eN_len (Nat.mod_lt _ hs0) rfl) ?_;refine Zr 3 rfl ?_;refine GT_S rfl (V_index rfl rfl rfl Tryz.underlying26 sz_82 (k := k) rfl hkp (h2.isSome hkp)) ?_;refine GT_S rfl (V_indexArrA (kk := 1) rfl rfl rfl Tryz.underlying82 sz_5 rfl (by omega)) ?_;refine ZL rfl ag_5 (h2.at1 noM hkp rfl) ?_;refine GT_S rfl (V_convII rfl rfl (by rw [Tryz.underlying5]; rfl) Tryz.underlying3 (wrap_i64 (by omega))) ?_;refine Zv rfl ?_;refine Zn rfl Tryz.underlying43 ?_;refine GT_S rfl (V_rem rfl rfl rfl (by omega)) ?_;refine GT_S rfl (V_index rfl rfl rfl Tryz.underlying43 sz_2 (k := (pr.getD k default).2.toNat % (stN ps ps.length).length) (tmodN hbk.2.1 _) (Nat.mod_lt _ hs0) (hU.isSome hs0)) ?_;refine ZL rfl ag_2 (CellAt.own0 hU eN_len (Nat.mod_lt _ hs0) rfl) ?_;refine GT_S rfl (V_build (vs := [_, _, _, _, _, _, _]) rfl rfl zc_47 pl_47 sa_47 rfl) ?_;refine GT_buildSlice (z := [_, _, _, _, _, _, _]) rfl rfl rfl rfl rfl Tryz.underlying36 zc_47 sz_47 (by decide) rfl rfl (fun _ => Rv rfl rfl GR_nil) (fun b72 => ?_);refine GT_append (enc := eDsc) (l := dN (stN ps ps.length) pr k) (m := [mkD (stN ps ps.length) pr k]) rfl rfl rfl rfl rfl rfl rfl hV (fun w m => RdL.own' m eDsc_len) Tryz.underlying36 zc_47 sz_47 ⟨rfl, by decide⟩ by_47 ⟨by simp only [List.length_singleton]; omega, by simp only [List.length_singleton]; omega⟩ eDsc_len eDsc_one (fun _ _ _ _ => GR_nil) (fun A5 c5 I5 hO5 => ?_);refine Zw rfl ?_;refine GT_nil ?_;refine GE_inBlock ?_;refine Zs [1, 2, 7, 9, 10, 33, 34, 35, 38, 39, 40] rfl ?_;refine ZP 3 [2] rfl ?_;refine Zv rfl ?_;refine Za rfl (by omega) ?_;refine Zw rfl ?_;refine GT_nil ?_
              exact GE_to (ih2 (k + 1, (A5, c5, I5)) ⟨many_T hkp (by omega) hs0, by dsimp only; rw [dN_snoc]; exact hO5⟩ (by dsimp only; omega)) ⟨rfl, rfl, rfl, lookS rfl (by dsimp only; rw [dN_snoc]), rfl, trivial⟩ (HS.chunk (HS.chunk HS.nil))
            · have hend := many_F hk (fun q => q5 (by omega)); subst hend
              refine GE_exit rfl ?_;refine Zq [9] 2 [] rfl rfl ?_;refine Zr 2 rfl ?_;refine GT_nil ?_;refine GE_ret Tryz.func8 rfl (fun w hw => ?_)
              exact ⟨v, hV, rfl, hw.hs (C := cx Tryz.prog hm 0 0 _ none' fun _ _ => True) HS.last⟩
          · have hend := many_F hk (fun q => q4 (by omega)); subst hend
            refine Zr 4 rfl ?_;refine GT_nil ?_;refine GE_cond_f rfl ?_;refine GE_exit rfl ?_;refine Zq [9] 2 [] rfl rfl ?_;refine Zr 2 rfl ?_;refine GT_nil ?_;refine GE_ret Tryz.func8 rfl (fun w hw => ?_)
            exact ⟨v, hV, rfl, hw.hs (C := cx Tryz.prog hm 0 0 _ none' fun _ _ => True) HS.last⟩
        · have hend := many_F hk (fun q => q3 (by omega)); subst hend
          refine Zr 9 rfl ?_;refine GT_nil ?_;refine GE_cond_f rfl ?_;refine GE_exit rfl ?_;refine Zq [9] 2 [] rfl rfl ?_;refine Zr 2 rfl ?_;refine GT_nil ?_;refine GE_ret Tryz.func8 rfl (fun w hw => ?_)
          exact ⟨v, hV, rfl, hw.hs (C := cx Tryz.prog hm 0 0 _ none' fun _ _ => True) HS.last⟩
      · exact ⟨Nat.zero_le _, Own.nil⟩
  · exact ⟨Nat.zero_le _, rfl, Own.nil⟩
end
end Go.Proofs.YtncleikbggjmjaaGreatDoor.Plg
