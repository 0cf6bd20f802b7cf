/- Texts of this proof, one behind the other: Wb7, Wb8, Wb9, Wba, Wbb. -/
import Derived.Test.YtncleikbggjmjaaGreatDoorMt0
import Derived.Test.YtncleikbggjmjaaGreatDoorMt20
/- A shop of plates: flaws that are made and mended, baths, walked. -/
namespace Go.Proofs.YtncleikbggjmjaaGreatDoor.Plg
open Go.Sx Go.Proofs Go.RowKit
open Side (eN eN_len eN_one getD_memT sh_trans)
open Lis (Plt ePlt ePlt_len)
section
variable {w w0 : World} {S : Shp} {G : Items} {q : PH} {l1 l2 : List PH} {M : Nat → Prop} {p : Plt} {a : Nat → Int} {k k2 : Nat}
set_option maxRecDepth 20000 in
set_option maxHeartbeats 1000000 in
theorem A_flaw (h0 : a 0 = 4) : ActC 45 a := by
  intro w0 w S G m0 hS
  rcases range_or a S with hk | ⟨l1, l2, q, hq, hk5, hkl, hgd⟩
  · refine Ret_ofH (vs := [_, _]) hm none' Tryz.func45 rfl Tryz.ntmps45 rfl m0 ?_
    dsimp only [slotsOf]
    refine Zp 3 [0] ?_;refine Zx [_, _, _, _, _, _, _, _, _, _, _, _, _] fun b3 => ?_;refine Zr 2 ?_;refine GT_nil ?_;refine Zp 5 [3] ?_;refine Zv ?_;refine Zg fo_70_5 ag_3 ?_;refine Zc rfl rn_29 (fun w hw => C_getX (ShAt.of (tail hw) hS) hk) GR_nil ?_;refine Zv ?_;refine Zz ?_;refine GE_block ?_;refine Zq [0, 3, 6] 3 [] ?_;refine Zv ?_;refine GT_S rfl (V_eqlNilPtr rfl rfl rfl Tryz.underlying76) ?_;refine Zv ?_;refine GT_nil ?_;refine GE_cond_t rfl ?_;refine Zq [] 2 [] ?_;refine Zr 2 ?_;refine GT_nil ?_;refine GE_ret Tryz.func45 ⟨_, _, rfl, rfl, rfl⟩ (fun w hw => ?_)
    exact ⟨(S, 0, 5), After.err hS (by decide), rfl, hw.hs (C := cx Tryz.prog hm 0 0 w0 none' fun _ _ => True) (HS.cons rfl (HS.chunk (HS.chunk (HS.chunk (HS.chunk (HS.chunk HS.last))))))⟩
  · have hp := hS.ps q (by rw [hq]; simp)
    have h3 := hS.n3
    have m1 := foc hq m0
    refine Ret_ofH (vs := [_, _]) hm none' Tryz.func45 rfl Tryz.ntmps45 rfl m1 ?_
    dsimp only [slotsOf]
    refine Zp 3 [0] ?_;refine Zx [_, _, _, _, _, _, _, _, _, _, _, _, _] fun b3 => ?_;refine Zr 2 ?_;refine GT_nil ?_;refine Zp 5 [3] ?_;refine Zv ?_;refine Zg fo_70_5 ag_3 ?_;refine Zc rfl rn_29 (fun w hw => hgd ▸ C_getK (ShAt.of (unfoc hq (tail hw)) hS) hkl hk5) GR_nil ?_;refine Zv ?_;refine Zz ?_;refine GE_block ?_;refine Zq [0, 3, 6] 3 [] ?_;refine Zv ?_;refine GT_S rfl (V_eqlNilPtr rfl rfl rfl Tryz.underlying76) ?_;refine Zv ?_;refine GT_nil ?_;refine GE_cond_f rfl ?_;refine Zp 6 [] ?_;refine Zr 2 ?_;refine Zf fo_81_0 ?_;refine Zg fo_78_6 ag_4 ?_;refine Zv ?_;refine GT_nil ?_;refine GE_condB rfl (fun q1 => ?_) (fun q1 => ?_)
    · refine Zq [] 2 [] ?_;refine Zr 2 ?_;refine GT_nil ?_;refine GE_ret Tryz.func45 ⟨_, _, rfl, rfl, rfl⟩ (fun w hw => ?_)
      exact ⟨(S, 0, 10), After.err hS (by decide), rfl, unfoc hq (hw.hs (C := cx Tryz.prog hm 0 0 w0 none' fun _ _ => True) (HS.cons rfl (HS.cons rfl (HS.cons rfl (HS.chunk (HS.chunk (HS.chunk (HS.chunk (HS.chunk (HS.chunk HS.last))))))))))⟩
    · refine Zq [0, 3, 6] 7 [] ?_;refine Zr 2 ?_;refine Zg fo_75_4 ag_73 ?_;refine Zn Tryz.underlying73 ?_;refine GT_S rfl (V_geq rfl rfl rfl) ?_;refine Zv ?_;refine GT_nil ?_;refine GE_cond rfl (fun q2 => ?_) (fun q2 => ?_)
      · refine Zq [] 2 [] ?_;refine Zr 2 ?_;refine GT_nil ?_;refine GE_ret Tryz.func45 ⟨_, _, rfl, rfl, rfl⟩ (fun w hw => ?_)
        exact ⟨(S, 0, 11), After.err hS (by decide), rfl, unfoc hq (hw.hs (C := cx Tryz.prog hm 0 0 w0 none' fun _ _ => True) (HS.cons rfl (HS.cons rfl (HS.cons rfl (HS.chunk (HS.chunk (HS.chunk (HS.chunk (HS.chunk (HS.chunk HS.last))))))))))⟩
      · refine GE_skip ?_;refine GE_inBlock ?_;refine Zq [0, 3, 6] 6 [] ?_;refine Zr 2 ?_;refine Zg fo_75_4 ag_73 ?_;refine Zn Tryz.underlying73 ?_;refine Zv ?_;refine Zz ?_;refine Zs [0, 3, 6, 7] ?_;refine ZD (.st 0 (.st 1 (.st 2 (.st 3 (.st 4 (.st 5 (.st 6 (.st 7 (.st 8 (.st 9 (.ld 10 [0, 1, 2, 3, 4] (.ld 11 [0] (.st 12 (.st 13 (.ld 14 [] .nil))))))))))))))) [10, 11, 14] ?_;refine Zr 3 ?_;refine Zg fo_75_4 ag_73 ?_;refine Zg fo_70_5 ag_3 ?_;refine Zg fo_70_10 ag_3 ?_;refine GT_S rfl (V_build (vs := [_, _]) rfl rfl zc_121 pl_121 sa_121 rfl) ?_;refine GT_buildSlice (z := [_, _]) rfl rfl rfl rfl rfl Tryz.underlying73 zc_121 sz_121 (by decide) rfl rfl (fun _ => Rv (Rv (Rv (Rf fo_75_4 (Rl ag_73 GR_nil))))) (fun b43 => ?_);refine GT_append (enc := eOr) (l := S.fl) (m := [(a 5, a 11)]) rfl rfl rfl rfl rfl rfl rfl hS.o3 (fun w m => RdL.own' m eOr_len) Tryz.underlying73 zc_121 sz_121 ⟨rfl, by decide⟩ by_121 ⟨by simp only [List.length_singleton]; omega, by simp only [List.length_singleton]; omega⟩ eOr_len eOr_one (fun _ _ _ _ => Rv GR_nil) (fun A3 c3 I3 hO3 => ?_);refine Zv ?_;refine Zf fo_75_4 ?_;refine ZS [_] [_, _, _, _, _, _, _, _, _, _, _, _, _, _, _, _, _, _] sz_73 ?_;refine GT_nil ?_;refine Zq [6, 7] 7 [6] ?_;refine Zr 2 ?_;refine Zg fo_81_1 ag_79 ?_;refine Zv ?_;refine GT_S rfl (V_build (vs := []) rfl rfl zc_84 pl_84 sa_84 rfl) ?_;refine GT_mapUpdateM (q := (S.fl.length : Int)) (v := ()) hp.1 keyK rfl rfl rfl rfl rfl rfl rfl rfl rfl Tryz.underlying79 (fun _ => GR_nil) (fun ob' hob' => ?_);refine GT_nil ?_;refine Zq [7] 3 [] ?_;refine Zr 3 ?_;refine GT_nil ?_;refine GE_ret Tryz.func45 ⟨_, _, rfl, rfl, rfl⟩ (fun w hw => ?_)
        exact ⟨({ S with qs := l1 ++ ⟨q.g, q.r, ob', q.p, upd q.f S.fl.length (some ())⟩ :: l2, fl := S.fl ++ [(a 5, a 11)], s3 := (A3, c3, I3) }, S.fl.length, 0), ⟨hS.put (q' := ⟨q.g, q.r, ob', q.p, upd q.f S.fl.length (some ())⟩) (s3 := (A3, c3, I3)) hq rfl hob' hp.2 hO3 (by rw [List.length_append, List.length_singleton]; omega), rfl, rfl, rfl, rfl, st_put (S := S) (q' := ⟨q.g, q.r, ob', q.p, upd q.f S.fl.length (some ())⟩) ▸ (by rw [List.length_append, List.length_singleton]; exact Step.flaw h0 (st_split hq) (by rw [List.length_map]; exact hk5) (by show S.fl.length < 64; omega))⟩, rfl, unfocP (S := { S with fl := S.fl ++ [(a 5, a 11)], s3 := (A3, c3, I3) }) (q' := ⟨q.g, q.r, ob', q.p, upd q.f S.fl.length (some ())⟩) hq (hw.hs (C := cx Tryz.prog hm 0 0 w0 none' fun _ _ => True) (HS.cons rfl (HS.cons rfl (HS.cons rfl (HS.chunk (HS.chunk (HS.chunk (HS.chunk (HS.chunk (HS.chunk HS.last))))))))))⟩
set_option maxRecDepth 20000 in
set_option maxHeartbeats 1000000 in
theorem A_mend (h0 : a 0 = 5) : ActC 46 a := by
  intro w0 w S G m0 hS
  rcases range_or a S with hk | ⟨l1, l2, q, hq, hk5, hkl, hgd⟩
  · refine Ret_ofH (vs := [_, _]) hm none' Tryz.func46 rfl Tryz.ntmps46 rfl m0 ?_
    dsimp only [slotsOf]
    refine Zp 3 [0] ?_;refine Zx [_, _, _, _, _, _, _, _, _, _, _, _, _] fun b3 => ?_;refine Zr 2 ?_;refine GT_nil ?_;refine Zp 5 [3] ?_;refine Zv ?_;refine Zg fo_70_5 ag_3 ?_;refine Zc rfl rn_29 (fun w hw => C_getX (ShAt.of (tail hw) hS) hk) GR_nil ?_;refine Zv ?_;refine Zz ?_;refine GE_seq ?_;refine Zs [0, 3, 6] ?_;refine ZD (.st 0 (.st 1 (.st 2 (.st 3 (.st 4 (.st 5 (.st 6 (.st 7 (.st 8 (.st 9 (.st 10 (.st 11 (.st 12 (.st 13 (.st 14 (.st 15 (.st 16 .nil))))))))))))))))) [] ?_;refine Zv ?_;refine GT_S rfl (V_eqlNilPtr rfl rfl rfl Tryz.underlying76) ?_;refine Zr 15 ?_;refine GT_nil ?_;refine GE_cond_t rfl ?_;refine Zq [] 2 [] ?_;refine Zr 2 ?_;refine GT_nil ?_;refine GE_ret Tryz.func46 ⟨_, _, rfl, rfl, rfl⟩ (fun w hw => ?_)
    exact ⟨(S, 0, 5), After.err hS (by decide), rfl, hw.hs (C := cx Tryz.prog hm 0 0 w0 none' fun _ _ => True) (HS.cons rfl (HS.chunk (HS.chunk (HS.chunk (HS.chunk (HS.chunk HS.last))))))⟩
  · have hp := hS.ps q (by rw [hq]; simp)
    have h3 := hS.n3
    have m1 := foc hq m0
    refine Ret_ofH (vs := [_, _]) hm none' Tryz.func46 rfl Tryz.ntmps46 rfl m1 ?_
    dsimp only [slotsOf]
    refine Zp 3 [0] ?_;refine Zx [_, _, _, _, _, _, _, _, _, _, _, _, _] fun b3 => ?_;refine Zr 2 ?_;refine GT_nil ?_;refine Zp 5 [3] ?_;refine Zv ?_;refine Zg fo_70_5 ag_3 ?_;refine Zc rfl rn_29 (fun w hw => hgd ▸ C_getK (ShAt.of (unfoc hq (tail hw)) hS) hkl hk5) GR_nil ?_;refine Zv ?_;refine Zz ?_;refine GE_seq ?_;refine Zs [0, 3, 6] ?_;refine ZD (.st 0 (.st 1 (.st 2 (.st 3 (.st 4 (.st 5 (.st 6 (.st 7 (.st 8 (.st 9 (.st 10 (.st 11 (.st 12 (.st 13 (.st 14 (.st 15 (.st 16 .nil))))))))))))))))) [] ?_;refine Zv ?_;refine GT_S rfl (V_eqlNilPtr rfl rfl rfl Tryz.underlying76) ?_;refine Zv ?_;refine Zg fo_70_11 ag_3 ?_;refine GT_S rfl (V_lss rfl rfl rfl) ?_;refine Zr 2 ?_;refine GT_split (d := 20) rfl (fun q1 => ?_) (fun q1 => ?_)
    · refine Zr 9 ?_;refine GT_nil ?_;refine GE_cond_t rfl ?_;refine Zq [] 2 [] ?_;refine Zr 2 ?_;refine GT_nil ?_;refine GE_ret Tryz.func46 ⟨_, _, rfl, rfl, rfl⟩ (fun w hw => ?_)
      exact ⟨(S, 0, 5), After.err hS (by decide), rfl, unfoc hq (hw.hs (C := cx Tryz.prog hm 0 0 w0 none' fun _ _ => True) (HS.cons rfl (HS.cons rfl (HS.cons rfl (HS.chunk (HS.chunk (HS.chunk (HS.chunk (HS.chunk (HS.chunk HS.last))))))))))⟩
    · refine Zg fo_70_11 ag_3 ?_;refine Zr 2 ?_;refine Zg fo_75_4 ag_73 ?_;refine Zn Tryz.underlying73 ?_;refine GT_S rfl (V_geq rfl rfl rfl) ?_;refine Zv ?_;refine GT_nil ?_;refine GE_cond rfl (fun q2 => ?_) (fun q2 => ?_)
      · refine Zq [] 2 [] ?_;refine Zr 2 ?_;refine GT_nil ?_;refine GE_ret Tryz.func46 ⟨_, _, rfl, rfl, rfl⟩ (fun w hw => ?_)
        exact ⟨(S, 0, 5), After.err hS (by decide), rfl, unfoc hq (hw.hs (C := cx Tryz.prog hm 0 0 w0 none' fun _ _ => True) (HS.cons rfl (HS.cons rfl (HS.cons rfl (HS.chunk (HS.chunk (HS.chunk (HS.chunk (HS.chunk (HS.chunk HS.last))))))))))⟩
      · refine GE_skip ?_;refine GE_seq ?_;refine Zq [3, 6] 5 [] ?_;refine Zr 2 ?_;refine Zf fo_81_0 ?_;refine Zg fo_78_6 ag_4 ?_;refine GT_nil ?_;refine GE_condB rfl (fun q3 => ?_) (fun q3 => ?_)
        · refine Zq [] 2 [] ?_;refine Zr 2 ?_;refine GT_nil ?_;refine GE_ret Tryz.func46 ⟨_, _, rfl, rfl, rfl⟩ (fun w hw => ?_)
          exact ⟨(S, 0, 10), After.err hS (by decide), rfl, unfoc hq (hw.hs (C := cx Tryz.prog hm 0 0 w0 none' fun _ _ => True) (HS.cons rfl (HS.cons rfl (HS.cons rfl (HS.chunk (HS.chunk (HS.chunk (HS.chunk (HS.chunk (HS.chunk HS.last))))))))))⟩
        · refine GE_skip ?_;refine GE_seq ?_;refine GE_seq ?_;refine Zs [3, 6] ?_;refine ZD (.st 0 (.st 1 (.st 2 (.st 3 (.st 4 (.st 5 (.st 6 (.st 7 (.st 8 (.st 9 (.ld 10 [0, 1, 2, 3, 4, 5, 6, 7, 8, 9] (.ld 11 [9] (.st 12 .nil))))))))))))) [10, 11] ?_;refine Zr 2 ?_;refine Zg fo_81_1 ag_79 ?_;refine Zg fo_70_11 ag_3 ?_;refine GT_S rfl (V_lookupOkM (q := a 12) (z := ()) hp.1 keyK rfl rfl rfl rfl Tryz.underlying79 zvU) ?_;refine Zr 3 ?_;refine GT_alloc rfl rfl rfl rfl rfl zc_84 (fun _ => Rv (Rv (Rf fo_81_1 (Rl ag_79 (Rf fo_70_11 (Rl ag_3 (GR_S rfl rfl (V_lookupOkM (q := a 12) (z := ()) hp.1 keyK rfl rfl rfl rfl Tryz.underlying79 zvU) (Rv (Rv (Rv GR_nil)))))))))) (fun b7 => ?_);refine GT_store (vs := []) rfl rfl rfl rfl rfl rfl rfl sz_84 rfl rfl (Nat.le_of_ble_eq_true rfl) rfl (Rv GR_nil) ?_;refine Zv ?_;refine GT_nil ?_;refine Zq [3, 6, 8] 2 [] ?_;refine Zv ?_;refine GT_S rfl (V_notB rfl rfl) ?_;refine GT_nil ?_;refine GE_condNotB rfl (fun q4 => ?_) (fun q4 => ?_)
          · refine Zq [] 2 [] ?_;refine Zr 2 ?_;refine GT_nil ?_;refine GE_ret Tryz.func46 ⟨_, _, rfl, rfl, rfl⟩ (fun w hw => ?_)
            exact ⟨(S, 0, 19), After.err hS (by decide), rfl, unfoc hq (hw.hs (C := cx Tryz.prog hm 0 0 w0 none' fun _ _ => True) (HS.cons rfl (HS.cons rfl (HS.cons rfl (HS.chunk (HS.chunk (HS.chunk (HS.chunk (HS.chunk (HS.chunk HS.last))))))))))⟩
          · refine GE_skip ?_;refine GE_seq ?_;refine ZD (.st 0 (.st 1 (.st 2 (.st 3 (.st 4 (.st 5 (.ld 6 [] .nil))))))) [6] ?_;refine Zr 2 ?_;refine Zg fo_81_1 ag_79 ?_;refine Zg fo_70_11 ag_3 ?_;refine GT_deleteM (q := a 12) hp.1 keyK rfl rfl rfl rfl rfl rfl rfl Tryz.underlying79 (fun _ => GR_nil) (fun ob' hob' => ?_);refine GT_nil ?_;refine Zq [] 2 [] ?_;refine Zr 2 ?_;refine GT_nil ?_;refine GE_ret Tryz.func46 ⟨_, _, rfl, rfl, rfl⟩ (fun w hw => ?_)
            exact ⟨({ S with qs := l1 ++ ⟨q.g, q.r, ob', q.p, upd q.f (a 12) none⟩ :: l2 }, 0, 0), ⟨hS.put (q' := ⟨q.g, q.r, ob', q.p, upd q.f (a 12) none⟩) hq rfl hob' hp.2 hS.o3 hS.n3, rfl, rfl, rfl, rfl, st_put (S := S) (fl := S.fl) (s3 := S.s3) (q' := ⟨q.g, q.r, ob', q.p, upd q.f (a 12) none⟩) ▸ Step.mend h0 (st_split hq) (by rw [List.length_map]; exact hk5) ⟨by omega, by show a 12 < (S.fl.length : Int); omega⟩ (by simpa using q4)⟩, rfl, unfocP (q' := ⟨q.g, q.r, ob', q.p, upd q.f (a 12) none⟩) hq (hw.hs (C := cx Tryz.prog hm 0 0 w0 none' fun _ _ => True) (HS.cons rfl (HS.cons rfl (HS.cons rfl (HS.chunk (HS.chunk (HS.chunk (HS.chunk (HS.chunk (HS.chunk HS.last))))))))))⟩
end
end Go.Proofs.YtncleikbggjmjaaGreatDoor.Plg
/- A shop of plates: baths, and plates that are added, walked. -/
namespace Go.Proofs.YtncleikbggjmjaaGreatDoor.Plg
open Go.Sx Go.Proofs Go.RowKit
open Side (eN eN_len eN_one getD_memT sh_trans)
open Lis (Plt ePlt ePlt_len)
abbrev pV (p : Plt) : Value := .agg #[I p.kind, I p.par, I p.cut, I p.area, I p.thick, I p.grown, .bool p.ret]
section
variable {w w0 : World} {S : Shp} {G : Items} {q : PH} {l1 l2 : List PH} {M : Nat → Prop} {p : Plt} {a : Nat → Int} {k k2 : Nat}
theorem Shp.Ok.tanks (h : S.Ok) {ts : List (Int × Int × Int × Int)} {s2 : Sl} (o2 : Own 4 161 eTk ts (.slice s2.1 ts.length s2.2.1) s2.2.2) (n2 : ts.length ≤ 8) : ({ S with ts := ts, s2 := s2 } : Shp).Ok := ⟨h.r1, h.r2, h.o1, o2, h.o3, h.o4, h.n1, n2, h.n3, h.n4, h.ps⟩
set_option maxRecDepth 20000 in
set_option maxHeartbeats 1000000 in
theorem A_bath (h0 : a 0 = 2) : ActC 43 a := by
  intro w0 w S G m0 hS
  have h2 := hS.n2
  have m1 : SH w0 none' ((S.b, blk S.cells 75) :: (S.s1.2.2 ++ (S.s2.2.2 ++ (S.s3.2.2 ++ (S.s4.2.2 ++ (PJ S.qs ++ G)))))) w := m0
  refine Ret_ofH (vs := [_, _]) hm none' Tryz.func43 rfl Tryz.ntmps43 rfl m1 ?_
  dsimp only [slotsOf]
  refine Zp 3 [0] ?_;refine Zx [_, _, _, _, _, _, _, _, _, _, _, _, _] fun b3 => ?_;refine Zr 2 ?_;refine Zz ?_;refine Zp 6 [] ?_;refine Zr 2 ?_;refine Zg fo_75_3 ag_72 ?_;refine Zn Tryz.underlying72 ?_;refine GT_S rfl (V_geq rfl rfl rfl) ?_;refine GT_nil ?_;refine GE_cond rfl (fun q1 => ?_) (fun q1 => ?_)
  · refine Zq [] 2 [] ?_;refine Zr 2 ?_;refine GT_nil ?_;refine GE_ret Tryz.func43 ⟨_, _, rfl, rfl, rfl⟩ (fun w hw => ?_)
    exact ⟨(S, 0, 11), After.err hS (by decide), rfl, hw.hs (C := cx Tryz.prog hm 0 0 w0 none' fun _ _ => True) (HS.cons rfl (HS.chunk (HS.chunk (HS.chunk (HS.chunk (HS.chunk HS.last))))))⟩
  · refine GE_skip ?_;refine GE_seq ?_;refine Zs [0, 3] ?_;refine ZD (.st 0 (.st 1 (.st 2 (.st 3 (.st 4 (.st 5 (.st 6 (.st 7 (.st 8 (.st 9 (.ld 10 [0, 1, 2, 3, 4] (.ld 11 [0] (.st 12 (.st 13 (.ld 14 [] .nil))))))))))))))) [10, 11, 14] ?_;refine Zr 3 ?_;refine Zg fo_75_3 ag_72 ?_;refine Zg fo_70_3 ag_2 ?_;refine Zg fo_70_4 ag_2 ?_;refine GT_S rfl (V_build (vs := [_, _, _, _]) rfl rfl zc_161 pl_161 sa_161 rfl) ?_;refine GT_buildSlice (z := [_, _, _, _]) rfl rfl rfl rfl rfl Tryz.underlying72 zc_161 sz_161 (by decide) rfl rfl (fun _ => Rv (Rv (Rv (Rf fo_75_3 (Rl ag_72 GR_nil))))) (fun b22 => ?_);refine GT_append (enc := eTk) (l := S.ts) (m := [(a 3, a 4, 0, 0)]) rfl rfl rfl rfl rfl rfl rfl hS.o2 (fun w m => RdL.own' m eTk_len) Tryz.underlying72 zc_161 sz_161 ⟨rfl, by decide⟩ by_161 ⟨by simp only [List.length_singleton]; omega, by simp only [List.length_singleton]; omega⟩ eTk_len eTk_one (fun _ _ _ _ => Rv GR_nil) (fun A3 c3 I3 hO3 => ?_);refine Zv ?_;refine Zf fo_75_3 ?_;refine ZS [_] [_, _, _, _, _, _, _, _, _, _, _, _, _, _, _, _, _, _] sz_72 ?_;refine GT_nil ?_;refine Zq [0] 8 [] ?_;refine Zr 2 ?_;refine Zg fo_75_3 ag_72 ?_;refine Zn Tryz.underlying72 ?_;refine GT_S rfl (V_sub rfl rfl rfl (rfl)) ?_;refine Zr 2 ?_;refine GT_nil ?_;refine GE_ret Tryz.func43 ⟨_, _, rfl, rfl, rfl⟩ (fun w hw => ?_)
    exact ⟨({ S with ts := S.ts ++ [(a 3, a 4, 0, 0)], s2 := (A3, c3, I3) }, _, 0), ⟨hS.tanks (s2 := (A3, c3, I3)) hO3 (by rw [List.length_append, List.length_singleton]; omega), rfl, rfl, rfl, rfl, Step.bath h0 _⟩, rfl, hw.hs (C := cx Tryz.prog hm 0 0 w0 none' fun _ _ => True) (HS.cons rfl (HS.chunk (HS.chunk (HS.chunk (HS.chunk (HS.chunk HS.last))))))⟩
abbrev Shp.snoc (S : Shp) (s1 : Sl) (q : PH) : Shp := { S with s1 := s1, qs := S.qs ++ [q] }
theorem Shp.Ok.snoc {s1 : Sl} (h : S.Ok) (hl : S.qs.length < 256) (o1 : Own 1 76 ePtr (S.gs ++ [q.g]) (.slice s1.1 (S.gs ++ [q.g]).length s1.2.1) s1.2.2) (hq : MapIs kK vU q.f q.ob ∧ PlOk1 q.p) : (S.snoc s1 q).Ok := by
  have e1 : (S.qs ++ [q]).map (·.g) = S.gs ++ [q.g] := by simp
  have e2 : (S.qs ++ [q]).length = (S.gs ++ [q.g]).length := by rw [List.length_append, List.length_append, gs_len]; rfl
  refine ⟨h.r1, h.r2, ?_, h.o2, h.o3, h.o4, ?_, h.n2, h.n3, h.n4, ?_⟩
  · unfold Shp.gs; dsimp only; rw [e1, e2]; exact o1
  · dsimp only; rw [List.length_append, List.length_singleton]; omega
  · intro z hz
    dsimp only at hz
    rw [List.mem_append, List.mem_singleton] at hz
    rcases hz with hz | rfl
    · exact h.ps z hz
    · exact hq
theorem W_snoc {s1 : Sl} (m : SH w0 M ((S.b, blk (shC S.R s1.1 S.s2.1 S.s3.1 S.s4.1 (S.gs ++ [q.g]).length s1.2.1 S.ts.length S.s2.2.1 S.fl.length S.s3.2.1 S.al.length S.s4.2.1) 75) :: (q.g, plB q.p q.r) :: (q.r, q.ob) :: (s1.2.2 ++ (S.s2.2.2 ++ (S.s3.2.2 ++ (S.s4.2.2 ++ (PJ S.qs ++ G)))))) w) : SH w0 M ((S.snoc s1 q).W G) w := by
  have e2 : (S.qs ++ [q]).length = (S.gs ++ [q.g]).length := by rw [List.length_append, List.length_append, gs_len]; rfl
  unfold Shp.W Shp.cells
  dsimp only
  rw [e2]
  rw [show PJ (S.qs ++ [q]) ++ G = PJ S.qs ++ ((q.g, plB q.p q.r) :: (q.r, q.ob) :: G) by rw [PJ_append]; simp [PJ]]
  exact m.hs (C := cx Tryz.prog (by decide) 0 0 w0 M fun _ _ => True) (HS.cons rfl (HS.chunk (HS.chunk (HS.chunk (HS.chunk (HS.chunk (HS.cons rfl (HS.cons rfl HS.last))))))))
set_option maxRecDepth 20000 in
set_option maxHeartbeats 1000000 in
theorem C_add (m0 : SH w0 none' (S.W G) w) (hS : S.Ok) (hl : S.qs.length < 256) (hp : PlOk1 p) :
    Ret Tryz.prog 68 [ptr S.b 0, pV p].toArray w fun v w' => ∃ y : Sl × PH, ((S.snoc y.1 y.2).Ok ∧ y.2.p = p ∧ y.2.f = fun _ => none) ∧ v = ptr y.2.g 0 ∧ SH w0 none' ((S.snoc y.1 y.2).W G) w' := by
  have m1 : SH w0 none' ((S.b, blk S.cells 75) :: (S.s1.2.2 ++ (S.s2.2.2 ++ (S.s3.2.2 ++ (S.s4.2.2 ++ (PJ S.qs ++ G)))))) w := m0
  have ho1 := hS.o1
  have hgl : S.gs.length = S.qs.length := gs_len
  rw [← hgl] at ho1
  unfold Shp.cells at m1
  rw [← hgl] at m1
  refine Ret_ofH (vs := [_, _]) hm none' Tryz.func68 rfl Tryz.ntmps68 rfl m1 ?_
  dsimp only [slotsOf]
  refine Zp 2 [0] ?_;refine Zx [_, _, _, _, _, _, _] fun b3 => ?_;refine Zv ?_;refine GT_nil ?_;refine Zp 5 [1, 3] ?_;refine ZN [_, _, _, _, _, _, _] ag_78 sz_78 ?_;refine GT_makeMapM kK vU rfl rfl rfl rfl rfl (fun _ _ => GR_nil) (fun b7 ob7 hM7 => ?_);refine GT_S rfl (V_build (vs := [_, _, _, _, _, _, _, _]) rfl rfl zc_81 pl_81 sa_81 rfl) ?_;refine Zx [_, _, _, _, _, _, _, _] fun b9 => ?_;refine Zv ?_;refine GT_nil ?_;refine Zq [0, 5] 11 [6, 7, 10] ?_;refine Zr 3 ?_;refine Zg fo_75_2 ag_71 ?_;refine Zv ?_;refine GT_buildSlice (z := [_]) rfl rfl rfl rfl rfl Tryz.underlying71 zc_76 sz_76 (by decide) rfl rfl (fun _ => GR_nil) (fun b16 => ?_);refine GT_append (enc := ePtr) (l := S.gs) (m := [b9]) rfl rfl rfl rfl rfl rfl rfl ho1 (fun w m => RdL.own' m ePtr_len) Tryz.underlying71 zc_76 sz_76 ⟨rfl, by decide⟩ by_76 ⟨by simp only [List.length_singleton]; omega, by simp only [List.length_singleton]; omega⟩ ePtr_len ePtr_one (fun _ _ _ _ => GR_nil) (fun A3 c3 I3 hO3 => ?_);refine Zv ?_;refine Zf fo_75_2 ?_;refine ZS [_] [_, _, _, _, _, _, _, _, _, _, _, _, _, _, _, _, _, _] sz_71 ?_;refine GT_nil ?_;refine Zq [5] 2 [] ?_;refine Zr 2 ?_;refine GT_nil ?_;refine GE_ret Tryz.func68 rfl (fun w hw => ?_)
  exact ⟨((A3, c3, I3), ⟨b9, b7, ob7, p, fun _ => none⟩), ⟨hS.snoc (s1 := (A3, c3, I3)) (q := ⟨b9, b7, ob7, p, fun _ => none⟩) hl hO3 ⟨hM7, hp⟩, rfl, rfl⟩, rfl, W_snoc (hw.hs (C := cx Tryz.prog hm 0 0 w0 none' fun _ _ => True) (HS.cons rfl (HS.cons rfl (HS.cons rfl (HS.chunk (HS.chunk (HS.chunk (HS.chunk (HS.chunk HS.last)))))))))⟩
end
end Go.Proofs.YtncleikbggjmjaaGreatDoor.Plg
/- A shop of plates: lacquers and growths, walked. -/
namespace Go.Proofs.YtncleikbggjmjaaGreatDoor.Plg
open Go.Sx Go.Proofs Go.RowKit
open Side (eN eN_len eN_one getD_memT sh_trans)
open Lis (Plt ePlt ePlt_len)
section
variable {w w0 : World} {S : Shp} {G : Items} {q : PH} {l1 l2 : List PH} {M : Nat → Prop} {p : Plt} {a : Nat → Int} {k k2 : Nat}
set_option maxRecDepth 20000 in
set_option maxHeartbeats 1000000 in
theorem A_lacquer (h0 : a 0 = 1) (h2 : 1 ≤ a 2) : ActC 42 a := by
  intro w0 w S G m0 hS
  have m1 : SH w0 none' ((S.b, blk S.cells 75) :: (S.s1.2.2 ++ (S.s2.2.2 ++ (S.s3.2.2 ++ (S.s4.2.2 ++ (PJ S.qs ++ G)))))) w := m0
  have hn1 := hS.n1
  refine Ret_ofH (vs := [_, _]) hm none' Tryz.func42 rfl Tryz.ntmps42 rfl m1 ?_
  dsimp only [slotsOf]
  refine Zp 3 [0] ?_;refine Zx [_, _, _, _, _, _, _, _, _, _, _, _, _] fun b3 => ?_;refine Zr 2 ?_;refine Zz ?_;refine Zp 6 [] ?_;refine Zr 2 ?_;refine Zg fo_75_2 ag_71 ?_;refine Zn Tryz.underlying71 ?_;refine GT_S rfl (V_geq rfl rfl rfl) ?_;refine GT_nil ?_;refine GE_cond rfl (fun q1 => ?_) (fun q1 => ?_)
  · refine Zq [] 2 [] ?_;refine Zr 2 ?_;refine GT_nil ?_;refine GE_ret Tryz.func42 ⟨_, _, rfl, rfl, rfl⟩ (fun w hw => ?_)
    exact ⟨(S, 0, 11), After.err hS (by decide), rfl, hw.hs (C := cx Tryz.prog hm 0 0 w0 none' fun _ _ => True) (HS.cons rfl (HS.chunk (HS.chunk (HS.chunk (HS.chunk (HS.chunk HS.last))))))⟩
  · refine GE_skip ?_;refine Zq [0, 3] 7 [6] ?_;refine Zv ?_;refine Zg fo_70_1 ag_2 ?_;refine Zg fo_70_2 ag_2 ?_;refine GT_S rfl (V_build (vs := [_, _, _, _, _, _, _]) rfl rfl zc_78 pl_78 sa_78 rfl) ?_;refine GT_callX rfl rfl rfl rfl rfl rfl rfl rfl rn_68 (fun w m9 => C_add (S := S) (p := ⟨0, -1, a 1, a 2, 0, 0, false⟩) (G := (b3, _) :: G) (m9.hs (C := cx Tryz.prog hm 0 0 w0 none' fun _ _ => True) (HS.cons rfl (HS.chunk (HS.chunk (HS.chunk (HS.chunk (HS.chunk (HS.cons rfl HS.last)))))))) hS (by omega) ⟨Int.le_refl 0, Int.ofNat_le.2 (Nat.zero_le 3), h2, Int.le_refl 0, Int.ofNat_le.2 (Nat.zero_le 16)⟩) (fun _ _ => GR_nil) (fun y hy => ?_);refine GT_nil ?_;refine Zq [0] 8 [] ?_;refine Zr 2 ?_;refine Zg fo_75_2 ag_71 ?_;refine Zn Tryz.underlying71 ?_;refine GT_S rfl (V_sub rfl rfl rfl ((wrap_i64 (by rw [List.length_append, List.length_singleton]; omega)).trans (show _ = ((S.qs.length : Nat) : Int) by rw [List.length_append, List.length_singleton]; omega))) ?_;refine Zr 2 ?_;refine GT_nil ?_;refine GE_ret Tryz.func42 ⟨_, _, rfl, rfl, rfl⟩ (fun w hw => ?_)
    exact ⟨(S.snoc y.1 y.2, S.qs.length, 0), ⟨hy.1, rfl, rfl, rfl, rfl, by have := Step.lacquer (a := a) (x := S.st) h0 (by show (S.qs.map PH.pf).length < 256; rw [List.length_map]; omega); have e : S.st.l.length = S.qs.length := List.length_map ..; rw [e] at this; have e2 : (S.snoc y.1 y.2).st = ⟨S.st.l ++ [(⟨0, -1, a 1, a 2, 0, 0, false⟩, fun _ => none)], S.st.nf⟩ := (by show (⟨(S.qs ++ [y.2]).map PH.pf, _⟩ : St) = _; rw [List.map_append]; simp [PH.pf, hy.2.1, hy.2.2]); rw [e2]; exact this⟩, rfl, hw.hs (C := cx Tryz.prog hm 0 0 w0 none' fun _ _ => True) (HS.cons rfl (HS.chunk (HS.chunk (HS.chunk (HS.chunk (HS.chunk HS.last))))))⟩
end
end Go.Proofs.YtncleikbggjmjaaGreatDoor.Plg
/- A shop of plates: growths, walked. -/
namespace Go.Proofs.YtncleikbggjmjaaGreatDoor.Plg
open Go.Sx Go.Proofs Go.RowKit
open Side (eN eN_len eN_one getD_memT sh_trans)
open Lis (Plt ePlt ePlt_len)
abbrev Shp.cells1 (S : Shp) (s1 : Sl) : List Value := shC S.R s1.1 S.s2.1 S.s3.1 S.s4.1 (S.qs.length + 1) s1.2.1 S.ts.length S.s2.2.1 S.fl.length S.s3.2.1 S.al.length S.s4.2.1
abbrev Fo2 (S : Shp) (s1 : Sl) (q : PH) (y : PH) (l1 l2 : List PH) (G : Items) : Items := (S.b, blk (S.cells1 s1) 75) :: (q.g, plB q.p q.r) :: (q.r, q.ob) :: (y.g, plB y.p y.r) :: (y.r, y.ob) :: (s1.2.2 ++ (S.s2.2.2 ++ (S.s3.2.2 ++ (S.s4.2.2 ++ (PJ l1 ++ (PJ l2 ++ G))))))
abbrev Shp.put2 (S : Shp) (s1 : Sl) (l1 : List PH) (q : PH) (l2 : List PH) (y : PH) : Shp := { S with s1 := s1, qs := l1 ++ q :: (l2 ++ [y]) }
section
variable {w w0 : World} {S : Shp} {G : Items} {q q' y y' : PH} {l1 l2 : List PH} {M : Nat → Prop} {p : Plt} {a : Nat → Int} {k k2 : Nat} {s1 : Sl}
theorem PJ_snoc2 (l1 : List PH) (q : PH) (l2 : List PH) (y : PH) (G : Items) : PJ (l1 ++ q :: (l2 ++ [y])) ++ G = PJ l1 ++ ((q.g, plB q.p q.r) :: (q.r, q.ob) :: (PJ l2 ++ ((y.g, plB y.p y.r) :: (y.r, y.ob) :: G))) := by
  rw [PJ_mid, PJ_append]; simp [PJ]
theorem foc2 (h : S.qs = l1 ++ q :: l2) (m : SH w0 M ((S.snoc s1 y).W G) w) : SH w0 M (Fo2 S s1 q y l1 l2 G) w := by
  have e2 : (S.snoc s1 y).cells = S.cells1 s1 := by
    unfold Shp.cells Shp.cells1
    rw [show (S.snoc s1 y).qs.length = S.qs.length + 1 by show (S.qs ++ [y]).length = _; rw [List.length_append]; rfl]
  unfold Shp.W at m
  rw [e2] at m
  rw [show PJ (S.snoc s1 y).qs ++ G = PJ l1 ++ ((q.g, plB q.p q.r) :: (q.r, q.ob) :: (PJ l2 ++ ((y.g, plB y.p y.r) :: (y.r, y.ob) :: G))) by rw [← PJ_snoc2]; show PJ (S.qs ++ [y]) ++ G = _; rw [h, List.append_assoc]; rfl] at m
  exact m.hs (C := cx Tryz.prog (by decide) 0 0 w0 M fun _ _ => True) (HS.cons rfl (HS.cons rfl (HS.cons rfl (HS.cons rfl (HS.cons rfl (HS.chunk (HS.chunk (HS.chunk (HS.chunk (HS.chunk (HS.chunk HS.last)))))))))))
theorem unfoc2 (h : S.qs = l1 ++ q :: l2) (m : SH w0 M (Fo2 S s1 q' y l1 l2 G) w) : SH w0 M ((S.put2 s1 l1 q' l2 y).W G) w := by
  have e2 : S.cells1 s1 = (S.put2 s1 l1 q' l2 y).cells := by
    unfold Shp.cells Shp.cells1
    rw [show S.qs.length + 1 = (S.put2 s1 l1 q' l2 y).qs.length by show _ = (l1 ++ q' :: (l2 ++ [y])).length; rw [h]; simp; omega]
  unfold Fo2 at m
  rw [e2] at m
  unfold Shp.W
  rw [show PJ (S.put2 s1 l1 q' l2 y).qs ++ G = PJ l1 ++ ((q'.g, plB q'.p q'.r) :: (q'.r, q'.ob) :: (PJ l2 ++ ((y.g, plB y.p y.r) :: (y.r, y.ob) :: G))) by rw [← PJ_snoc2]]
  exact m.hs (C := cx Tryz.prog (by decide) 0 0 w0 M fun _ _ => True) (HS.cons rfl (HS.chunk (HS.chunk (HS.chunk (HS.chunk (HS.chunk (HS.cons rfl (HS.cons rfl (HS.chunk (HS.cons rfl (HS.cons rfl HS.last)))))))))))
theorem C_addF (hq : S.qs = l1 ++ q :: l2) (m0 : SH w0 none' (Foc S q l1 l2 G) w) (hS : S.Ok) (hl : S.qs.length < 256) (hp : PlOk1 p) :
    Ret Tryz.prog 68 [ptr S.b 0, pV p].toArray w fun v w' => ∃ y : Sl × PH, ((S.snoc y.1 y.2).Ok ∧ y.2.p = p ∧ y.2.f = fun _ => none) ∧ v = ptr y.2.g 0 ∧ SH w0 none' (Fo2 S y.1 q y.2 l1 l2 G) w' :=
  (C_add (unfoc hq m0) hS hl hp).mono fun _ _ ⟨y, h1, h2, h3⟩ => ⟨y, h1, h2, foc2 hq h3⟩
theorem Shp.Ok.put2 (hq : S.qs = l1 ++ q :: l2) (h : (S.snoc s1 y).Ok) (hg : q'.g = q.g) (hm : MapIs kK vU q'.f q'.ob) (hp : PlOk1 q'.p) (hg2 : y'.g = y.g) (hm2 : MapIs kK vU y'.f y'.ob) (hp2 : PlOk1 y'.p) : (S.put2 s1 l1 q' l2 y').Ok := by
  have h1 : (S.snoc s1 y).qs = l1 ++ q :: (l2 ++ [y]) := by show S.qs ++ [y] = _; rw [hq, List.append_assoc]; rfl
  have h2 := h.put (q' := q') h1 hg hm hp h.o3 h.n3
  have h3 : (l1 ++ q' :: (l2 ++ [y])) = (l1 ++ q' :: l2) ++ y :: [] := by simp
  have h4 := h2.put (q' := y') h3 hg2 hm2 hp2 h2.o3 h2.n3
  have h5 : (l1 ++ q' :: l2) ++ y' :: [] = l1 ++ q' :: (l2 ++ [y']) := by simp
  rw [h5] at h4
  exact h4
theorem st_put2 : (S.put2 s1 l1 q' l2 y').st = ⟨l1.map PH.pf ++ (q'.p, q'.f) :: l2.map PH.pf ++ [(y'.p, y'.f)], S.fl.length⟩ := by
  show (⟨(l1 ++ q' :: (l2 ++ [y'])).map PH.pf, S.fl.length⟩ : St) = _
  congr 1
  simp [PH.pf]
theorem getD_setS {α : Type} [Inhabited α] {l : List α} {k : Nat} (x : α) (h : k < l.length) : (l.set k x).getD k default = x := by
  simp [List.getD, h]
end
end Go.Proofs.YtncleikbggjmjaaGreatDoor.Plg
/- A shop of plates: growths, walked. -/
namespace Go.Proofs.YtncleikbggjmjaaGreatDoor.Plg
open Go.Sx Go.Proofs Go.RowKit
open Side (eN eN_len eN_one getD_memT sh_trans)
open Lis (Plt ePlt ePlt_len)
section
variable {w w0 : World} {S : Shp} {G : Items} {q q' y y' : PH} {l1 l2 : List PH} {M : Nat → Prop} {p : Plt} {a : Nat → Int} {k k2 : Nat} {s1 : Sl}
theorem it_sub {f : Int → Option Unit} {r : Nat} {ob it : Obj} {X : Int → Prop} {n : Nat} (h : ItIs kK vU f r ob it X n) (t : Int) (ht : X t) : (f t).isSome = true := by
  obtain ⟨es, clock, seen, _, hE, _, _, hS⟩ := h
  obtain ⟨e, he, hk, _⟩ := (hS t).1 ht
  obtain ⟨j, hj⟩ := List.getElem?_of_mem he
  obtain ⟨k', v, h1, _, h3⟩ := hE.holds j e hj
  obtain rfl := keyK.inj _ _ (hk.symm.trans h1)
  rw [h3]; rfl
theorem own_len {α : Type} {sz e n c : Nat} {enc : α → List Value} {l : List α} {A : Option Addr} {I : Items} (h : Own sz e enc l (.slice A n c) I) (hl : l.length = n) : ∃ l' : List α, l'.length = n ∧ Own sz e enc l' (.slice A l'.length c) I := ⟨l, hl, by rw [hl]; exact h⟩
theorem isSome_unit {f g : Int → Option Unit} (h : ∀ t, (f t).isSome = true ↔ (g t).isSome = true) : f = g := funext fun t => by
  have := h t
  cases hf : f t <;> cases hg : g t <;> simp_all
set_option maxRecDepth 40000 in
set_option maxHeartbeats 2000000 in
theorem A_grow (h0 : a 0 = 3) : ActC 44 a := by
  intro w0 w S G m0 hS
  rcases range_or a S with hk | ⟨l1, l2, q, hq, hk5, hkl, hgd⟩
  · refine Ret_ofH (vs := [_, _]) hm none' Tryz.func44 rfl Tryz.ntmps44 rfl m0 ?_
    dsimp only [slotsOf]
    refine Zp 3 [0] ?_;refine Zx [_, _, _, _, _, _, _, _, _, _, _, _, _] fun b3 => ?_;refine Zr 2 ?_;refine Zz ?_;refine Zp 4 [2] ?_;refine Zv ?_;refine ZN [_, _, _, _, _, _, _, _, _, _, _, _, _] ag_70 sz_70 ?_;refine ZC rfl rn_69 (fun w hw => C_here (ShAt.of (tail hw) hS) hS) (fun _ _ => GR_nil) (fun e he => ?_);refine Zv ?_;refine GT_nil ?_;refine Zq [0, 3, 6] 2 [] ?_;refine Zv ?_;refine GT_S rfl (V_neq rfl rfl rfl) ?_;refine GT_nil ?_;refine GE_condNot rfl (fun q1 => ?_) (fun q1 => ?_)
    · refine Zq [6] 3 [] ?_;refine Zr 3 ?_;refine GT_nil ?_;refine GE_ret Tryz.func44 ⟨_, _, rfl, rfl, rfl⟩ (fun w hw => ?_)
      exact ⟨(S, 0, e), After.err hS (by omega), rfl, hw.hs (C := cx Tryz.prog hm 0 0 w0 none' fun _ _ => True) (HS.cons rfl (HS.chunk (HS.chunk (HS.chunk (HS.chunk (HS.chunk HS.last))))))⟩
    · obtain ⟨k, _, h5, hl, _⟩ := he (by omega); omega
  · have hp := hS.ps q (by rw [hq]; simp)
    have m1 := foc hq m0
    refine Ret_ofH (vs := [_, _]) hm none' Tryz.func44 rfl Tryz.ntmps44 rfl m1 ?_
    dsimp only [slotsOf]
    refine Zp 3 [0] ?_;refine Zx [_, _, _, _, _, _, _, _, _, _, _, _, _] fun b3 => ?_;refine Zr 2 ?_;refine Zz ?_;refine Zp 4 [2] ?_;refine Zv ?_;refine ZN [_, _, _, _, _, _, _, _, _, _, _, _, _] ag_70 sz_70 ?_;refine ZC rfl rn_69 (fun w hw => C_here (ShAt.of (unfoc hq (tail hw)) hS) hS) (fun _ _ => GR_nil) (fun e he => ?_);refine Zv ?_;refine GT_nil ?_;refine Zq [0, 3, 6] 2 [] ?_;refine Zv ?_;refine GT_S rfl (V_neq rfl rfl rfl) ?_;refine GT_nil ?_;refine GE_condNot rfl (fun q1 => ?_) (fun q1 => ?_)
    · refine Zq [6] 3 [] ?_;refine Zr 3 ?_;refine GT_nil ?_;refine GE_ret Tryz.func44 ⟨_, _, rfl, rfl, rfl⟩ (fun w hw => ?_)
      exact ⟨(S, 0, e), After.err hS (by omega), rfl, unfoc hq (hw.hs (C := cx Tryz.prog hm 0 0 w0 none' fun _ _ => True) (HS.cons rfl (HS.cons rfl (HS.cons rfl (HS.chunk (HS.chunk (HS.chunk (HS.chunk (HS.chunk (HS.chunk HS.last))))))))))⟩
    · obtain ⟨k, k2, hk, hkl', hk6, hk2, hret, hkd, hgr, h256⟩ := he (by omega); obtain rfl : k = l1.length := (by omega); rw [hgd] at hret hkd hgr
      refine GE_skip ?_;refine Zp 8 [2] ?_;refine Zv ?_;refine ZN [_, _, _, _, _, _, _, _, _, _, _, _, _] ag_70 sz_70 ?_;refine ZC rfl rn_70 (fun w hw => C_lay (ShAt.of (unfoc hq (tail hw)) hS) hS hkl hk5 hk2 hk6 (hgd.symm ▸ hkd)) (fun _ _ => GR_nil) (fun ly _ => ?_);refine Zr 5 ?_;refine Zz ?_;refine Zq [0, 3, 7, 8] 2 [] ?_;refine Zv ?_;refine GT_S rfl (V_neq rfl rfl rfl) ?_;refine GT_nil ?_;refine GE_condNot rfl (fun q2 => ?_) (fun q2 => ?_)
      · refine Zq [8] 3 [] ?_;refine Zr 3 ?_;refine GT_nil ?_;refine GE_ret Tryz.func44 ⟨_, _, rfl, rfl, rfl⟩ (fun w hw => ?_)
        exact ⟨(S, 0, ly.2), After.err hS q2, rfl, unfoc hq (hw.hs (C := cx Tryz.prog hm 0 0 w0 none' fun _ _ => True) (HS.cons rfl (HS.cons rfl (HS.cons rfl (HS.chunk (HS.chunk (HS.chunk (HS.chunk (HS.chunk (HS.chunk HS.last))))))))))⟩
      · refine GE_skip ?_;refine GE_cut (ι := Nat × (Int × Int × Int)) (fun z => [(0, ptr S.b 0), (3, ptr b3 0), (7, I ly.1), (9, ptr z.1 0), (10, .pointer (some ((ad S.s2.1).add (k2 * 4)))), (11, ptr q.g 0)]) (fun z => (z.1, blk [I z.2.1, I z.2.2.1, I z.2.2.2] 165) :: (b3, blk (eAct a) 70) :: Foc S q l1 l2 G) (fun z => True) ?_ (fun hk' => ?_)
        · rintro ⟨b9, gw⟩ _; dsimp only
          refine GE_seq ?_;refine ZD (.st 0 (.st 1 (.st 2 (.st 3 (.st 4 (.st 5 (.st 6 (.st 7 (.st 8 (.st 9 (.st 10 (.st 11 (.st 12 (.st 13 (.st 14 (.st 15 (.st 16 (.st 17 (.st 18 (.st 19 (.st 20 (.st 21 (.st 22 (.st 23 (.st 24 (.st 25 (.ld 26 [1, 2, 14, 15, 16, 21, 22, 23] (.st 27 (.st 28 (.ld 29 [2, 21, 22, 23] (.st 30 (.st 31 (.ld 32 [] .nil))))))))))))))))))))))))))))))))) [26, 29, 32] ?_;refine Zr 5 ?_;refine GT_S rfl (V_fieldA rfl rfl fo_161_0) ?_;refine ZL rfl ag_2 (CellAt.own hS.o2 eTk_len hk2 rfl) ?_;refine Zg fo_165_1 ag_2 ?_;refine GT_S rfl (V_sub rfl rfl rfl (rfl)) ?_;refine Zr 2 ?_;refine GT_S rfl (V_fieldA rfl rfl fo_161_3) ?_;refine ZL rfl ag_2 (CellAt.own hS.o2 eTk_len hk2 rfl) ?_;refine Zg fo_165_1 ag_2 ?_;refine GT_S rfl (V_add rfl rfl rfl (rfl)) ?_;refine Zr 2 ?_;refine GT_S rfl (V_fieldA rfl rfl fo_161_2) ?_;refine ZL rfl ag_2 (CellAt.own hS.o2 eTk_len hk2 rfl) ?_;refine Zg fo_165_2 ag_2 ?_;refine GT_S rfl (V_add rfl rfl rfl (rfl)) ?_;refine Zv ?_;refine GT_S rfl (V_fieldA rfl rfl fo_161_0) ?_;refine GT_storeF (enc := eTk) (q := k2) (j := 0) (xx := (IntKind.i64.wrap ((S.ts.getD k2 default).1 - gw.2.1), (S.ts.getD k2 default).2.1, (S.ts.getD k2 default).2.2.1, (S.ts.getD k2 default).2.2.2)) rfl rfl rfl rfl rfl rfl rfl sz_2 hS.o2 eTk_len rfl hk2 (by decide) rfl (fun _ _ => Rv (Rv (Rf fo_165_1 (Rl ag_2 (GR_S rfl rfl (V_add rfl rfl rfl (rfl)) (Rf fo_165_2 (Rl ag_2 (GR_S rfl rfl (V_add rfl rfl rfl (rfl)) GR_nil)))))))) (fun I5 hO5 => ?_);refine Zv ?_;refine GT_S rfl (V_fieldA rfl rfl fo_161_3) ?_;refine GT_storeF (enc := eTk) (q := k2) (j := 3) (xx := (IntKind.i64.wrap ((S.ts.getD k2 default).1 - gw.2.1), (S.ts.getD k2 default).2.1, (S.ts.getD k2 default).2.2.1, IntKind.i64.wrap ((S.ts.getD k2 default).2.2.2 + gw.2.1))) rfl rfl rfl rfl rfl rfl rfl sz_2 hO5 eTk_len rfl (by rw [List.length_set]; exact hk2) (by decide) (by rw [getD_setS _ hk2]; rfl) (fun _ _ => Rv (Rf fo_165_2 (Rl ag_2 (GR_S rfl rfl (V_add rfl rfl rfl (rfl)) GR_nil)))) (fun I6 hO6 => ?_);refine Zv ?_;refine GT_S rfl (V_fieldA rfl rfl fo_161_2) ?_;refine GT_storeF (enc := eTk) (q := k2) (j := 2) (xx := (IntKind.i64.wrap ((S.ts.getD k2 default).1 - gw.2.1), (S.ts.getD k2 default).2.1, IntKind.i64.wrap ((S.ts.getD k2 default).2.2.1 + gw.2.2), IntKind.i64.wrap ((S.ts.getD k2 default).2.2.2 + gw.2.1))) rfl rfl rfl rfl rfl rfl rfl sz_2 hO6 eTk_len rfl (by rw [List.length_set, List.length_set]; exact hk2) (by decide) (by rw [getD_setS _ (by rw [List.length_set]; exact hk2)]; rfl) (fun _ _ => GR_nil) (fun I7 hO7 => ?_);obtain ⟨ts', hts, hO8⟩ := own_len hO7 (by rw [List.length_set, List.length_set, List.length_set])
          refine Zz ?_;refine Zs [0, 3, 7, 11] ?_;refine ZD (.st 0 (.st 1 (.st 2 (.st 3 (.st 4 (.st 5 (.st 6 (.st 7 (.st 8 (.st 9 (.st 10 (.st 11 (.st 12 (.st 13 (.st 14 (.st 15 (.st 16 (.st 17 (.st 18 (.st 19 (.st 20 (.ld 21 [] (.st 22 .nil))))))))))))))))))))))) [21] ?_;refine Zr 3 ?_;refine Zf fo_81_0 ?_;refine Zg fo_78_0 ag_3 ?_;refine GT_S rfl (V_add rfl rfl rfl (wrap_i64 (show -9223372036854775808 ≤ q.p.kind + 1 ∧ q.p.kind + 1 ≤ 9223372036854775807 by have := hp.2.1; omega))) ?_;refine Zg fo_70_5 ag_3 ?_;refine Zr 2 ?_;refine Zf fo_81_0 ?_;refine Zg fo_78_2 ag_2 ?_;refine Zr 2 ?_;refine Zf fo_81_0 ?_;refine Zg fo_78_3 ag_2 ?_;refine Zv ?_;refine GT_S rfl (V_build (vs := [_, _, _, _, _, _, _]) rfl rfl zc_78 pl_78 sa_78 rfl) ?_;refine GT_callX rfl rfl rfl rfl rfl rfl rfl rfl rn_68 (fun w m9 => C_addF (S := { S with ts := ts', s2 := (S.s2.1, S.s2.2.1, I7) }) (p := ⟨q.p.kind + 1, a 5, q.p.cut, q.p.area, ly.1, 0, false⟩) (q := q) (l1 := l1) (l2 := l2) (G := (b9, blk [I gw.1, I gw.2.1, I gw.2.2] 165) :: (b3, blk (eAct a) 70) :: G) hq (m9.hs (C := cx Tryz.prog hm 0 0 w0 none' fun _ _ => True) (HS.cons (by unfold Shp.cells; dsimp only; rw [hts]) (HS.cons rfl (HS.cons rfl (HS.chunk (HS.chunk (HS.chunk (HS.chunk (HS.chunk (HS.chunk (HS.cons rfl (HS.cons rfl HS.last)))))))))))) (hS.tanks (s2 := (S.s2.1, S.s2.2.1, I7)) hO8 (by rw [hts]; exact hS.n2)) h256 ⟨by have := hp.2.1; show 0 ≤ q.p.kind + 1; omega, by show q.p.kind + 1 ≤ 3; omega, hp.2.2.2.1, Int.le_refl 0, Int.ofNat_le.2 (Nat.zero_le 16)⟩) (fun _ _ => GR_nil) (fun y hy => ?_);obtain ⟨ys, ⟨yg, yr, yob, yp, yf⟩⟩ := y;obtain ⟨hyok, rfl, rfl⟩ := hy;dsimp only;clear hO5 hO6 hO7;have hyM := (hyok.ps _ (List.mem_append_right _ (List.mem_singleton.2 rfl))).1
          refine Zv ?_;refine Zz ?_;refine Zq [0, 11, 12] 5 [4] ?_;refine Zr 2 ?_;refine Zg fo_81_1 ag_79 ?_;refine GT_rangeM (ke := kK) (ve := vU) hp.1 rfl rfl rfl rfl rfl rfl Tryz.underlying79 (fun _ _ => GR_nil) (fun b99 it99 lf99 hI99 => ?_);refine GT_nil ?_;refine GE_block ?_;refine GE_to (GE_loop (ι := (Int → Prop) × BF × Obj × Obj × Nat) (fun z => z.2.2.2.2) (fun z => [(0, ptr S.b 0), (11, ptr q.g 0), (12, ptr yg 0), (99, ptr b99 0)]) (fun z => (b99, z.2.2.2.1) :: Fo2 ({ S with ts := ts', s2 := (S.s2.1, S.s2.2.1, I7) } : Shp) ys q ⟨yg, yr, z.2.2.1, ⟨q.p.kind + 1, a 5, q.p.cut, q.p.area, ly.1, 0, false⟩, fun _ => none⟩ l1 l2 G) (fun z => ItIs kK vU q.f q.r q.ob z.2.2.2.1 z.1 z.2.2.2.2 ∧ MapIs kK vU z.2.1 z.2.2.1 ∧ ∀ t, (z.2.1 t).isSome = true ↔ z.1 t) ?_ (fun _ => False, fun _ => none, yob, it99, lf99) ?_) ⟨rfl, rfl, rfl, rfl, trivial⟩ (HS.cons rfl (HS.cons rfl (HS.cons rfl (HS.cons rfl (HS.cons rfl (HS.cons rfl (HS.chunk (HS.chunk (HS.chunk (HS.chunk (HS.chunk (HS.chunk HS.last))))))))))))
          · rintro ⟨Sx, fc, oc, it, lf⟩ ⟨hIt, hMc, hSx⟩ ih; dsimp only at hIt hMc hSx ih ⊢
            refine Zp 2 [0] ?_;refine GT_nextM (ke := kK) (ve := vU) hIt rfl rfl rfl rfl rfl rfl keyK.inj (fun _ _ => GR_nil) (fun A100 it' cc key un lf' hA hT hF => ?_);refine GT_S rfl (V_extract rfl rfl hA) ?_;refine Zz ?_;refine GE_condB rfl (fun q3 => ?_) (fun q3 => ?_)
            · obtain ⟨hfk, hns, hat, hlt, hit2⟩ := hT q3
              refine GE_skip ?_;refine GE_block ?_;refine Zp 3 [] ?_;refine GT_S rfl (V_entryM hat rfl rfl) ?_;refine Zr 2 ?_;refine GT_nil ?_;refine Zs [0, 11, 12, 13, 99] ?_;refine ZP 7 [6] ?_;refine Zr 2 ?_;refine Zg fo_81_1 ag_79 ?_;refine Zv ?_;refine GT_S rfl (V_build (vs := []) rfl rfl zc_84 pl_84 sa_84 rfl) ?_;refine GT_mapUpdateM (q := key) (v := ()) hMc keyK rfl rfl rfl rfl rfl rfl rfl rfl rfl Tryz.underlying79 (fun _ => GR_nil) (fun ob' hob' => ?_);refine GT_nil ?_;refine GE_inBlock ?_
              exact GE_to (ih (fun t => Sx t ∨ t = key, upd fc key (some ()), ob', it', lf') ⟨hit2, hob', fun t => (by dsimp only; unfold upd; by_cases e : t = key; (subst e; simp); (simp only [e, if_false, or_false]; exact hSx t))⟩ hlt) ⟨rfl, rfl, rfl, rfl, trivial⟩ (HS.cons (by exact rfl) (HS.cons (by exact rfl) (HS.cons (by exact rfl) (HS.cons (by exact rfl) (HS.cons (by exact rfl) (HS.cons (by exact rfl) (HS.chunk (HS.chunk (HS.chunk (HS.chunk (HS.chunk (HS.chunk HS.last))))))))))))
            · have hall := hF q3; have hfe : fc = q.f := isSome_unit (fun t => ⟨fun h => (by obtain ⟨hI1, hM1, hX1⟩ := And.intro hIt (And.intro hMc hSx); exact it_sub hI1 t ((hX1 t).1 h)), fun h => (hSx t).2 (hall t (by intro e; rw [e] at h; cases h))⟩)
              refine GE_exit rfl ?_;refine Zq [0, 11] 10 [9] ?_;refine Zr 2 ?_;refine Zf fo_81_0 ?_;refine Zg fo_78_5 ag_3 ?_;refine GT_S rfl (V_add rfl rfl rfl (wrap_i64 (show -9223372036854775808 ≤ q.p.grown + 1 ∧ q.p.grown + 1 ≤ 9223372036854775807 by have := hp.2.2.2.2.1; omega))) ?_;refine Zv ?_;refine Zf fo_81_0 ?_;refine Zf fo_78_5 ?_;refine ZS [_] [_, _, _, _, _, _, _, _] sz_3 ?_;refine Zz ?_;refine Zq [0, 11] 6 [] ?_;refine Zr 2 ?_;refine Zf fo_81_0 ?_;refine Zg fo_78_0 ag_3 ?_;refine GT_S rfl (V_eql rfl rfl rfl) ?_;refine GT_nil ?_;refine GE_cond rfl (fun q4 => ?_) (fun q4 => ?_)
              · refine Zs [0, 11] ?_;refine ZP 5 [4] ?_;refine Zr 2 ?_;refine Zf fo_81_0 ?_;refine Zf fo_78_6 ?_;refine ZS [_] [_, _, _, _, _, _, _, _] sz_4 ?_;refine GT_nil ?_;refine Zq [0] 8 [] ?_;refine Zr 2 ?_;refine Zg fo_75_2 ag_71 ?_;refine Zn Tryz.underlying71 ?_;refine GT_S rfl (V_sub rfl rfl rfl ((wrap_i64 (by dsimp only; omega)).trans (show _ = ((S.qs.length : Nat) : Int) by dsimp only; omega))) ?_;refine Zr 2 ?_;refine GT_nil ?_;refine GE_ret Tryz.func44 ⟨_, _, rfl, rfl, rfl⟩ (fun w hw => ?_)
                exact ⟨(({ S with ts := ts', s2 := (S.s2.1, S.s2.2.1, I7) } : Shp).put2 ys l1 ⟨q.g, q.r, q.ob, grownP q.p, q.f⟩ l2 ⟨yg, yr, oc, ⟨q.p.kind + 1, a 5, q.p.cut, q.p.area, ly.1, 0, false⟩, q.f⟩, S.qs.length, 0), ⟨Shp.Ok.put2 (S := ({ S with ts := ts', s2 := (S.s2.1, S.s2.2.1, I7) } : Shp)) (q' := ⟨q.g, q.r, q.ob, grownP q.p, q.f⟩) (y' := ⟨yg, yr, oc, ⟨q.p.kind + 1, a 5, q.p.cut, q.p.area, ly.1, 0, false⟩, q.f⟩) hq hyok rfl hp.1 ⟨hp.2.1, hp.2.2.1, hp.2.2.2.1, by have := hp.2.2.2.2.1; show 0 ≤ q.p.grown + 1; omega, by show q.p.grown + 1 ≤ 16; omega⟩ rfl (hfe ▸ hMc) (hyok.ps _ (List.mem_append_right _ (List.mem_singleton.2 rfl))).2, rfl, rfl, rfl, rfl, (by have := Step.grow (a := a) (x := S.st) h0 (st_split hq) (by rw [List.length_map]; exact hk5) hkd (by show (S.qs.map PH.pf).length < 256; rw [List.length_map]; exact h256) ly.1; have e : S.st.l.length = S.qs.length := List.length_map ..; rw [e] at this; have e3 := st_put2 (S := ({ S with ts := ts', s2 := (S.s2.1, S.s2.2.1, I7) } : Shp)) (s1 := ys) (l1 := l1) (q' := ⟨q.g, q.r, q.ob, grownP q.p, q.f⟩) (l2 := l2) (y' := ⟨yg, yr, oc, ⟨q.p.kind + 1, a 5, q.p.cut, q.p.area, ly.1, 0, false⟩, q.f⟩); rw [e3]; exact this)⟩, rfl, unfoc2 (S := ({ S with ts := ts', s2 := (S.s2.1, S.s2.2.1, I7) } : Shp)) (q' := ⟨q.g, q.r, q.ob, grownP q.p, q.f⟩) hq (hw.hs (C := cx Tryz.prog hm 0 0 w0 none' fun _ _ => True) (HS.cons (by exact rfl) (HS.cons (by dsimp only [plB, grownP]; rw [decide_eq_true q4]) (HS.cons rfl (HS.cons rfl (HS.cons rfl (HS.chunk (HS.chunk (HS.chunk (HS.chunk (HS.chunk (HS.chunk HS.last))))))))))))⟩
              · refine GE_skip ?_;refine Zq [0] 8 [] ?_;refine Zr 2 ?_;refine Zg fo_75_2 ag_71 ?_;refine Zn Tryz.underlying71 ?_;refine GT_S rfl (V_sub rfl rfl rfl ((wrap_i64 (by dsimp only; omega)).trans (show _ = ((S.qs.length : Nat) : Int) by dsimp only; omega))) ?_;refine Zr 2 ?_;refine GT_nil ?_;refine GE_ret Tryz.func44 ⟨_, _, rfl, rfl, rfl⟩ (fun w hw => ?_)
                exact ⟨(({ S with ts := ts', s2 := (S.s2.1, S.s2.2.1, I7) } : Shp).put2 ys l1 ⟨q.g, q.r, q.ob, grownP q.p, q.f⟩ l2 ⟨yg, yr, oc, ⟨q.p.kind + 1, a 5, q.p.cut, q.p.area, ly.1, 0, false⟩, q.f⟩, S.qs.length, 0), ⟨Shp.Ok.put2 (S := ({ S with ts := ts', s2 := (S.s2.1, S.s2.2.1, I7) } : Shp)) (q' := ⟨q.g, q.r, q.ob, grownP q.p, q.f⟩) (y' := ⟨yg, yr, oc, ⟨q.p.kind + 1, a 5, q.p.cut, q.p.area, ly.1, 0, false⟩, q.f⟩) hq hyok rfl hp.1 ⟨hp.2.1, hp.2.2.1, hp.2.2.2.1, by have := hp.2.2.2.2.1; show 0 ≤ q.p.grown + 1; omega, by show q.p.grown + 1 ≤ 16; omega⟩ rfl (hfe ▸ hMc) (hyok.ps _ (List.mem_append_right _ (List.mem_singleton.2 rfl))).2, rfl, rfl, rfl, rfl, (by have := Step.grow (a := a) (x := S.st) h0 (st_split hq) (by rw [List.length_map]; exact hk5) hkd (by show (S.qs.map PH.pf).length < 256; rw [List.length_map]; exact h256) ly.1; have e : S.st.l.length = S.qs.length := List.length_map ..; rw [e] at this; have e3 := st_put2 (S := ({ S with ts := ts', s2 := (S.s2.1, S.s2.2.1, I7) } : Shp)) (s1 := ys) (l1 := l1) (q' := ⟨q.g, q.r, q.ob, grownP q.p, q.f⟩) (l2 := l2) (y' := ⟨yg, yr, oc, ⟨q.p.kind + 1, a 5, q.p.cut, q.p.area, ly.1, 0, false⟩, q.f⟩); rw [e3]; exact this)⟩, rfl, unfoc2 (S := ({ S with ts := ts', s2 := (S.s2.1, S.s2.2.1, I7) } : Shp)) (q' := ⟨q.g, q.r, q.ob, grownP q.p, q.f⟩) hq (hw.hs (C := cx Tryz.prog hm 0 0 w0 none' fun _ _ => True) (HS.cons (by exact rfl) (HS.cons (by dsimp only [plB, grownP]; rw [decide_eq_false q4, hret]) (HS.cons rfl (HS.cons rfl (HS.cons rfl (HS.chunk (HS.chunk (HS.chunk (HS.chunk (HS.chunk (HS.chunk HS.last))))))))))))⟩
          · exact ⟨hI99, hyM, fun t => ⟨fun h => (by cases h), fun h => h.elim⟩⟩
        · refine ZD (.st 0 (.st 1 (.st 3 (.st 4 (.st 5 (.st 6 (.st 7 (.st 8 (.st 9 (.st 10 (.st 11 (.st 12 (.br (.ld 2 [3, 4, 5, 6, 7, 8, 9, 10, 11, 12] (.br (.ld 13 [3, 4, 5, 6, 7, 8, 9] (.ld 14 [0, 1, 3, 4, 5, 6, 7, 8, 9, 10, 11, 12] (.ld 15 [3, 4, 5, 6, 7, 8, 9] (.st 16 (.st 17 .nil))))) (.ld 14 [0, 1, 3, 4, 5, 6, 7, 8, 9, 10, 11, 12] (.ld 13 [3, 4, 5, 6, 7, 8, 9] (.ld 15 [3, 4, 5, 6, 7, 8, 9] (.st 16 (.st 17 .nil))))))) (.ld 14 [0, 1, 3, 4, 5, 6, 7, 8, 9, 10, 11, 12] (.ld 2 [3, 4, 5, 6, 7, 8, 9, 10, 11, 12] (.ld 13 [3, 4, 5, 6, 7, 8, 9] (.ld 15 [3, 4, 5, 6, 7, 8, 9] (.st 16 (.st 17 .nil))))))))))))))))))) [2, 13, 14, 15] ?_;refine Zv ?_;refine ZN [_, _, _, _, _, _, _, _, _, _, _, _, _] ag_70 sz_70 ?_;refine Zr 2 ?_;refine Zg fo_75_3 ag_72 ?_;refine Zg fo_70_6 ag_3 ?_;refine GT_S rfl (V_index rfl rfl rfl Tryz.underlying72 sz_161 (k := k2) hk6 hk2 (hS.o2.isSome hk2)) ?_;refine Zv ?_;refine Zg fo_70_5 ag_3 ?_;refine GT_br ?_ ?_
          · refine ZC rfl rn_71 (fun w hw => C_growthS (ShAt.of (unfoc hq (tail hw)) hS) hk2 hk6) (fun _ _ => Rv (Rv (Rf fo_75_3 (Rl ag_72 (Rf fo_70_6 (Rl ag_3 (GR_S rfl rfl (V_index rfl rfl rfl Tryz.underlying72 sz_161 (k := k2) hk6 hk2 (hS.o2.isSome hk2)) (Rv (Rf fo_70_5 (Rl ag_3 GR_nil)))))))))) (fun gw _ => ?_);refine GT_br ?_ ?_
            · refine Zc rfl rn_29 (fun w hw => hgd ▸ C_getK (ShAt.of (unfoc hq (tail hw)) hS) hkl hk5) (Rv (Rv (Rf fo_75_3 (Rl ag_72 (Rf fo_70_6 (Rl ag_3 (GR_S rfl rfl (V_index rfl rfl rfl Tryz.underlying72 sz_161 (k := k2) hk6 hk2 (hS.o2.isSome hk2)) GR_nil))))))) ?_;refine GT_alloc rfl rfl rfl rfl rfl zc_165 (fun _ => Rv (GR_S rfl rfl (V_loadN (vs := [_, _, _, _, _, _, _, _, _, _, _, _, _]) rfl rfl ag_70 sz_70 rfl (CellsAt.item rfl)) (Rv (Rv (Rf fo_75_3 (Rl ag_72 (Rf fo_70_6 (Rl ag_3 (GR_S rfl rfl (V_index rfl rfl rfl Tryz.underlying72 sz_161 (k := k2) hk6 hk2 (hS.o2.isSome hk2)) (Rv (Rf fo_70_5 (Rl ag_3 GR_nil)))))))))))) (fun b9 => ?_);refine GT_store (vs := [_, _, _]) (l' := [_, _, _]) rfl rfl rfl rfl rfl rfl rfl sz_165 rfl rfl (Nat.le_of_ble_eq_true rfl) rfl (Rv (Rv (Rf fo_75_3 (Rl ag_72 (Rf fo_70_6 (Rl ag_3 (GR_S rfl rfl (V_index rfl rfl rfl Tryz.underlying72 sz_161 (k := k2) hk6 hk2 (hS.o2.isSome hk2)) GR_nil))))))) ?_;refine Zr 2 ?_;refine GT_nil ?_
              exact GE_to (hk' (b9, gw) trivial) ⟨rfl, rfl, rfl, rfl, rfl, rfl, trivial⟩ (HS.cons rfl (HS.cons rfl (HS.cons rfl (HS.cons rfl (HS.cons rfl (HS.chunk (HS.chunk (HS.chunk (HS.chunk (HS.chunk (HS.chunk HS.last)))))))))))
            · refine GT_alloc rfl rfl rfl rfl rfl zc_165 (fun _ => Rv (GR_S rfl rfl (V_loadN (vs := [_, _, _, _, _, _, _, _, _, _, _, _, _]) rfl rfl ag_70 sz_70 rfl (CellsAt.item rfl)) (Rv (Rv (Rf fo_75_3 (Rl ag_72 (Rf fo_70_6 (Rl ag_3 (GR_S rfl rfl (V_index rfl rfl rfl Tryz.underlying72 sz_161 (k := k2) hk6 hk2 (hS.o2.isSome hk2)) (Rv (Rf fo_70_5 (Rl ag_3 GR_nil)))))))))))) (fun b9 => ?_);refine Zc rfl rn_29 (fun w hw => hgd ▸ C_getK (ShAt.of (unfoc hq (tail (tail hw))) hS) hkl hk5) (Rv (Rv (Rf fo_75_3 (Rl ag_72 (Rf fo_70_6 (Rl ag_3 (GR_S rfl rfl (V_index rfl rfl rfl Tryz.underlying72 sz_161 (k := k2) hk6 hk2 (hS.o2.isSome hk2)) GR_nil))))))) ?_;refine GT_store (vs := [_, _, _]) (l' := [_, _, _]) rfl rfl rfl rfl rfl rfl rfl sz_165 rfl rfl (Nat.le_of_ble_eq_true rfl) rfl (Rv (Rv (Rf fo_75_3 (Rl ag_72 (Rf fo_70_6 (Rl ag_3 (GR_S rfl rfl (V_index rfl rfl rfl Tryz.underlying72 sz_161 (k := k2) hk6 hk2 (hS.o2.isSome hk2)) GR_nil))))))) ?_;refine Zr 2 ?_;refine GT_nil ?_
              exact GE_to (hk' (b9, gw) trivial) ⟨rfl, rfl, rfl, rfl, rfl, rfl, trivial⟩ (HS.cons rfl (HS.cons rfl (HS.cons rfl (HS.cons rfl (HS.cons rfl (HS.chunk (HS.chunk (HS.chunk (HS.chunk (HS.chunk (HS.chunk HS.last)))))))))))
          · refine GT_alloc rfl rfl rfl rfl rfl zc_165 (fun _ => Rv (GR_S rfl rfl (V_loadN (vs := [_, _, _, _, _, _, _, _, _, _, _, _, _]) rfl rfl ag_70 sz_70 rfl (CellsAt.item rfl)) (Rv (Rv (Rf fo_75_3 (Rl ag_72 (Rf fo_70_6 (Rl ag_3 (GR_S rfl rfl (V_index rfl rfl rfl Tryz.underlying72 sz_161 (k := k2) hk6 hk2 (hS.o2.isSome hk2)) (Rv (Rf fo_70_5 (Rl ag_3 GR_nil)))))))))))) (fun b9 => ?_);refine ZC rfl rn_71 (fun w hw => C_growthS (ShAt.of (unfoc hq (tail (tail hw))) hS) hk2 hk6) (fun _ _ => Rv (Rv (Rf fo_75_3 (Rl ag_72 (Rf fo_70_6 (Rl ag_3 (GR_S rfl rfl (V_index rfl rfl rfl Tryz.underlying72 sz_161 (k := k2) hk6 hk2 (hS.o2.isSome hk2)) (Rv (Rf fo_70_5 (Rl ag_3 GR_nil)))))))))) (fun gw _ => ?_);refine Zc rfl rn_29 (fun w hw => hgd ▸ C_getK (ShAt.of (unfoc hq (tail (tail hw))) hS) hkl hk5) (Rv (Rv (Rf fo_75_3 (Rl ag_72 (Rf fo_70_6 (Rl ag_3 (GR_S rfl rfl (V_index rfl rfl rfl Tryz.underlying72 sz_161 (k := k2) hk6 hk2 (hS.o2.isSome hk2)) GR_nil))))))) ?_;refine GT_store (vs := [_, _, _]) (l' := [_, _, _]) rfl rfl rfl rfl rfl rfl rfl sz_165 rfl rfl (Nat.le_of_ble_eq_true rfl) rfl (Rv (Rv (Rf fo_75_3 (Rl ag_72 (Rf fo_70_6 (Rl ag_3 (GR_S rfl rfl (V_index rfl rfl rfl Tryz.underlying72 sz_161 (k := k2) hk6 hk2 (hS.o2.isSome hk2)) GR_nil))))))) ?_;refine Zr 2 ?_;refine GT_nil ?_
            exact GE_to (hk' (b9, gw) trivial) ⟨rfl, rfl, rfl, rfl, rfl, rfl, trivial⟩ (HS.cons rfl (HS.cons rfl (HS.cons rfl (HS.cons rfl (HS.cons rfl (HS.chunk (HS.chunk (HS.chunk (HS.chunk (HS.chunk (HS.chunk HS.last)))))))))))
end
end Go.Proofs.YtncleikbggjmjaaGreatDoor.Plg
