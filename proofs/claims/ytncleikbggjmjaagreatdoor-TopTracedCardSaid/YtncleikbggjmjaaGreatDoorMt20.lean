/- Texts of this proof, one behind the other: Wb4, Wb5, Wb6. -/
import Derived.Test.YtncleikbggjmjaaGreatDoorMt0
import Derived.Test.YtncleikbggjmjaaGreatDoorMt19
/- A shop of plates: where a growth is possible, and how thick it is, walked. -/
namespace Go.Proofs.YtncleikbggjmjaaGreatDoor.Plg
open Go.Sx Go.Proofs Go.RowKit
open Side (eN eN_len eN_one getD_memT sh_trans)
open Lis (Plt ePlt ePlt_len)
abbrev plC (p : Plt) (r : Nat) : List Value := [I p.kind, I p.par, I p.cut, I p.area, I p.thick, I p.grown, .bool p.ret, .map (some r)]
structure ShAt (w : World) (S : Shp) : Prop where
  blk : BlkAt w S.b S.cells 75
  r1 : RdL w 1 ePtr S.s1.1 S.gs
  r2 : RdL w 4 eTk S.s2.1 S.ts
  r3 : RdL w 2 eOr S.s3.1 S.fl
  pl : ∀ k, k < S.qs.length → BlkAt w (S.qs.getD k default).g (plC (S.qs.getD k default).p (S.qs.getD k default).r) 81
  ob : ∀ k, k < S.qs.length → w.heap[(S.qs.getD k default).r]? = some (S.qs.getD k default).ob
theorem PJ_at {w0 w : World} {M : Nat → Prop} : ∀ {l : List PH} {G : Items}, SH w0 M (PJ l ++ G) w → ∀ k, k < l.length → BlkAt w (l.getD k default).g (plC (l.getD k default).p (l.getD k default).r) 81 ∧ w.heap[(l.getD k default).r]? = some (l.getD k default).ob := fun {l G} m k hk => by
  have h1 : ∀ (l : List PH) (k : Nat), k < l.length → ((l.getD k default).g, plB (l.getD k default).p (l.getD k default).r) ∈ PJ l ∧ ((l.getD k default).r, (l.getD k default).ob) ∈ PJ l := by
    intro l
    induction l with
    | nil => intro k hk; exact absurd hk (Nat.not_lt_zero _)
    | cons q l ih =>
      rintro (_ | k) hk
      · exact ⟨List.mem_cons_self .., List.mem_cons_of_mem _ (List.mem_cons_self ..)⟩
      · have := ih k (by simpa using hk)
        exact ⟨List.mem_cons_of_mem _ (List.mem_cons_of_mem _ this.1), List.mem_cons_of_mem _ (List.mem_cons_of_mem _ this.2)⟩
  obtain ⟨h2, h3⟩ := h1 l k hk
  exact ⟨(m.item _ (List.mem_append_left _ h2)).2, (m.item _ (List.mem_append_left _ h3)).2⟩
theorem ShAt.of {w0 w : World} {M : Nat → Prop} {S : Shp} {G : Items} (m : SH w0 M (S.W G) w) (h : S.Ok) : ShAt w S where
  blk := BlkAt.of m
  r1 := h.o1.rdH (H1 := _) ePtr_len m
  r2 := h.o2.rdH (H1 := _) eTk_len m
  r3 := h.o3.rdH (H1 := _) eOr_len m
  pl k hk := (PJ_at (G := (S.b, Go.Sx.blk S.cells 75) :: (S.s1.2.2 ++ (S.s2.2.2 ++ (S.s3.2.2 ++ (S.s4.2.2 ++ G))))) (m.hs (C := cx Tryz.prog (by decide) 0 0 w0 M fun _ _ => True) (HS.chunk (HS.cons rfl (HS.chunk (HS.chunk (HS.chunk (HS.chunk HS.last))))))) k hk).1
  ob k hk := (PJ_at (G := (S.b, Go.Sx.blk S.cells 75) :: (S.s1.2.2 ++ (S.s2.2.2 ++ (S.s3.2.2 ++ (S.s4.2.2 ++ G))))) (m.hs (C := cx Tryz.prog (by decide) 0 0 w0 M fun _ _ => True) (HS.chunk (HS.cons rfl (HS.chunk (HS.chunk (HS.chunk (HS.chunk HS.last))))))) k hk).2
theorem ShAt.sh {w w' : World} {S : Shp} {H : Items} (h : ShAt w S) (m : SH w none' H w') : ShAt w' S where
  blk := h.blk.sh m
  r1 := h.r1.sh m
  r2 := h.r2.sh m
  r3 := h.r3.sh m
  pl k hk := (h.pl k hk).sh m
  ob k hk := by rw [m.old _ (Array.getElem?_eq_some_iff.1 (h.ob k hk)).1 (fun e => e)]; exact h.ob k hk
theorem shC_at (R : Nat → Int) {A1 A2 A3 A4 : Option Addr} {n1 c1 n2 c2 n3 c3 n4 c4 : Nat} {i : Nat} (hi : i < 13) : (shC R A1 A2 A3 A4 n1 c1 n2 c2 n3 c3 n4 c4)[1 + i]? = some (I (R i)) := by
  match i, hi with
  | 0, _ | 1, _ | 2, _ | 3, _ | 4, _ | 5, _ | 6, _ | 7, _ | 8, _ | 9, _ | 10, _ | 11, _ | 12, _ => rfl
  | n + 13, h => omega
theorem here_kind {R : Nat → Int} {p : Plt} (hp : PlOk1 p) (h1 : p.ret = false) (h : ¬ (if p.ret = true then 0 else max 0 (cap R p.kind.toNat - p.grown)) = 0) : p.kind ≤ 2 := by
  obtain ⟨h2, h3, h4, h5, h6⟩ := hp
  rw [if_neg (by rw [h1]; decide)] at h
  by_cases e : p.kind ≤ 2
  · exact e
  · exfalso
    have : p.kind.toNat = 3 := by omega
    rw [this] at h
    have : cap R 3 = 0 := rfl
    omega
theorem here_grown {R : Nat → Int} {p : Plt} (r1 : 1 ≤ R 11 ∧ R 11 ≤ 16) (r2 : 1 ≤ R 12 ∧ R 12 ≤ 16) (h1 : p.ret = false) (h : ¬ (if p.ret = true then 0 else max 0 (cap R p.kind.toNat - p.grown)) = 0) : p.grown ≤ 15 := by
  have hc := cap_bd r1 r2 p.kind.toNat
  rw [if_neg (by rw [h1]; decide)] at h
  omega
theorem gs_at {S : Shp} {k : Nat} (hk : k < S.qs.length) : S.gs.getD k default = (S.qs.getD k default).g := by
  simp [List.getD, hk]
theorem gs_len {S : Shp} : S.gs.length = S.qs.length := List.length_map ..
section
variable {w : World} {S : Shp} {a : Nat → Int} {z : Int} {k k2 : Nat}
theorem C_getK (h : ShAt w S) (hk : k < S.qs.length) (hz : z = k) : Con0 Tryz.prog 29 [ptr S.b 0, I z] w (ptr (S.qs.getD k default).g 0) := by
  have hb := h.blk
  unfold Shp.cells at hb; rw [← gs_len (S := S)] at hb
  have := C_get (z := z) hb h.r1 (k := k) (by rw [gs_len]; exact hk) hz
  rwa [gs_at hk] at this
theorem C_getX (h : ShAt w S) (hz : z < 0 ∨ (S.qs.length : Int) ≤ z) : Con0 Tryz.prog 29 [ptr S.b 0, I z] w (.pointer none) := C_getN h.blk hz
def HereOk (S : Shp) (a : Nat → Int) (e : Int) : Prop := e = 0 → ∃ k k2 : Nat, a 5 = k ∧ k < S.qs.length ∧ a 6 = k2 ∧ k2 < S.ts.length ∧ (S.qs.getD k default).p.ret = false ∧ (S.qs.getD k default).p.kind ≤ 2 ∧ (S.qs.getD k default).p.grown ≤ 15 ∧ S.qs.length < 256
set_option maxRecDepth 20000 in
set_option maxHeartbeats 1000000 in
theorem C_here (h : ShAt w S) (hS : S.Ok) : Con Tryz.prog 69 [ptr S.b 0, aV a] w (HereOk S a) (fun e => I e) (fun _ => []) := by
  by_cases hk : a 5 < 0 ∨ (S.qs.length : Int) ≤ a 5
  · refine Ret_of (vs := [_, _]) hm none' Tryz.func69 rfl Tryz.ntmps69 rfl ?_
    dsimp only [slotsOf]
    refine Zp 2 [0] rfl ?_;refine Zx [_, _, _, _, _, _, _, _, _, _, _, _, _] rfl rfl fun b3 => ?_;refine Zv rfl ?_;refine GT_nil ?_;refine Zp 5 [3] rfl ?_;refine Zv rfl ?_;refine Zg rfl fo_70_5 rfl ag_3 rfl ?_;refine Zc rfl rn_29 (fun w hw => C_getX (h.sh hw.nil) hk) GR_nil ?_;refine Zv rfl ?_;refine Zz ?_;refine GE_block ?_;refine GE_seq ?_;refine Zs [0, 3, 5] rfl ?_;refine GE_drawn (.st 0 (.st 1 (.st 2 (.st 3 (.st 4 (.st 5 (.st 6 (.st 7 (.st 8 (.st 9 (.st 10 (.st 11 (.st 12 (.st 13 (.st 14 (.st 15 (.st 16 (.st 17 .nil)))))))))))))))))) [] (by decide +kernel) ?_;refine Zv rfl ?_;refine GT_S rfl (V_eqlNilPtr rfl rfl rfl Tryz.underlying76) ?_;refine Zr 16 rfl ?_;refine GT_nil ?_;refine GE_cond_t rfl ?_;refine Zq [] 1 [] rfl rfl ?_;refine Zv rfl ?_;refine GT_nil ?_;refine GE_ret Tryz.func69 rfl (fun w hw => ?_)
    exact ⟨5, fun q => absurd q (by decide), rfl, hw.nil⟩
  · obtain ⟨k, hk5⟩ : ∃ k : Nat, a 5 = k := ⟨(a 5).toNat, by omega⟩
    have hkl : k < S.qs.length := by omega
    have hg := h.pl k hkl
    have hp := (hS.ps _ (getD_memT hkl)).2
    generalize hq : S.qs.getD k default = q at hg hp
    refine Ret_of (vs := [_, _]) hm none' Tryz.func69 rfl Tryz.ntmps69 rfl ?_
    dsimp only [slotsOf]
    refine Zp 2 [0] rfl ?_;refine Zx [_, _, _, _, _, _, _, _, _, _, _, _, _] rfl rfl fun b3 => ?_;refine Zv rfl ?_;refine GT_nil ?_;refine Zp 5 [3] rfl ?_;refine Zv rfl ?_;refine Zg rfl fo_70_5 rfl ag_3 rfl ?_;refine Zc rfl rn_29 (fun w hw => hq ▸ C_getK (h.sh hw.nil) hkl hk5) GR_nil ?_;refine Zv rfl ?_;refine Zz ?_;refine GE_block ?_;refine GE_seq ?_;refine Zs [0, 3, 5] rfl ?_;refine GE_drawn (.st 0 (.st 1 (.st 2 (.st 3 (.st 4 (.st 5 (.st 6 (.st 7 (.st 8 (.st 9 (.st 10 (.st 11 (.st 12 (.st 13 (.st 14 (.st 15 (.st 16 (.st 17 .nil)))))))))))))))))) [] (by decide +kernel) ?_;refine Zv rfl ?_;refine GT_S rfl (V_eqlNilPtr rfl rfl rfl Tryz.underlying76) ?_;refine Zv rfl ?_;refine Zg rfl fo_70_6 rfl ag_3 rfl ?_;refine GT_S rfl (V_lss rfl rfl rfl) ?_;refine Zr 2 rfl ?_;refine GT_split (d := 18) rfl (fun q1 => ?_) (fun q1 => ?_)
    · refine Zr 10 rfl ?_;refine GT_nil ?_;refine GE_cond_t rfl ?_;refine Zq [] 1 [] rfl rfl ?_;refine Zv rfl ?_;refine GT_nil ?_;refine GE_ret Tryz.func69 rfl (fun w hw => ?_)
      exact ⟨5, fun q => absurd q (by decide), rfl, hw.nil⟩
    · refine Zg rfl fo_70_6 rfl ag_3 rfl ?_;refine Zr 2 rfl ?_;refine Zf rfl fo_75_3 ?_;refine ZL rfl ag_72 (CellAt.old (h.blk.cell rfl) (noM _)) ?_;refine Zn rfl Tryz.underlying72 ?_;refine GT_S rfl (V_geq rfl rfl rfl) ?_;refine Zr 2 rfl ?_;refine GT_nil ?_;refine GE_cond rfl (fun q2 => ?_) (fun q2 => ?_)
      · refine Zq [] 1 [] rfl rfl ?_;refine Zv rfl ?_;refine GT_nil ?_;refine GE_ret Tryz.func69 rfl (fun w hw => ?_)
        exact ⟨5, fun q => absurd q (by decide), rfl, hw.nil⟩
      · refine Zq [0, 3, 5] 6 [] rfl rfl ?_;refine Zr 2 rfl ?_;refine Zf rfl fo_81_0 ?_;refine Zf rfl fo_78_6 ?_;refine ZL rfl ag_4 (CellAt.old (hg.cell rfl) (noM _)) ?_;refine Zv rfl ?_;refine GT_nil ?_;refine GE_condB rfl (fun q3 => ?_) (fun q3 => ?_)
        · refine Zq [] 1 [] rfl rfl ?_;refine Zv rfl ?_;refine GT_nil ?_;refine GE_ret Tryz.func69 rfl (fun w hw => ?_)
          exact ⟨10, fun q => absurd q (by decide), rfl, hw.nil⟩
        · refine Zq [0, 3, 5] 13 [2] rfl rfl ?_;refine Zr 2 rfl ?_;refine Zc rfl rn_61 (fun w hw => C_room (h.blk.sh hw.nil) (hg.sh hw.nil) hp hS.r1 hS.r2) GR_nil ?_;refine GT_S rfl (V_eql rfl rfl rfl) ?_;refine Zv rfl ?_;refine GT_split (d := 39) rfl (fun q4 => ?_) (fun q4 => ?_)
          · refine Zr 8 rfl ?_;refine GT_nil ?_;refine GE_cond_t rfl ?_;refine Zq [] 1 [] rfl rfl ?_;refine Zv rfl ?_;refine GT_nil ?_;refine GE_ret Tryz.func69 rfl (fun w hw => ?_)
            exact ⟨11, fun q => absurd q (by decide), rfl, hw.nil⟩
          · refine Zr 2 rfl ?_;refine Zf rfl fo_75_2 ?_;refine ZL rfl ag_71 (CellAt.old (h.blk.cell rfl) (noM _)) ?_;refine Zn rfl Tryz.underlying71 ?_;refine GT_S rfl (V_geq rfl rfl rfl) ?_;refine Zr 2 rfl ?_;refine GT_nil ?_;refine GE_cond rfl (fun q5 => ?_) (fun q5 => ?_)
            · refine Zq [] 1 [] rfl rfl ?_;refine Zv rfl ?_;refine GT_nil ?_;refine GE_ret Tryz.func69 rfl (fun w hw => ?_)
              exact ⟨11, fun q => absurd q (by decide), rfl, hw.nil⟩
            · refine GE_seq ?_;refine Zs [0, 3, 5] rfl ?_;refine GE_drawn (.st 0 (.st 1 (.st 2 (.st 3 (.st 4 (.st 5 (.st 6 (.st 7 (.st 8 (.st 9 (.st 10 (.st 11 (.st 12 (.st 13 (.st 14 (.st 15 (.st 16 (.st 17 (.st 18 (.st 19 (.st 20 (.st 21 (.st 22 (.st 23 (.st 24 (.st 25 (.st 26 (.st 27 (.st 28 (.st 29 (.st 30 (.st 31 (.st 32 (.st 33 .nil)))))))))))))))))))))))))))))))))) [] (by decide +kernel) ?_;refine Zf rfl fo_70_7 ?_;refine GT_S rfl (V_indexArr (kk := 0) rfl rfl rfl Tryz.underlying68 sz_2 rfl (by omega)) ?_;refine Zl rfl ag_2 rfl ?_;refine GT_S rfl (V_mul rfl rfl rfl (rfl)) ?_;refine Zr 2 rfl ?_;refine Zf rfl fo_75_1 ?_;refine Zf rfl fo_24_3 ?_;refine ZL rfl ag_2 (CellAt.old (h.blk.cell rfl) (noM _)) ?_;refine Zr 2 rfl ?_;refine Zf rfl fo_81_0 ?_;refine Zf rfl fo_78_3 ?_;refine ZL rfl ag_2 (CellAt.old (hg.cell rfl) (noM _)) ?_;refine GT_S rfl (V_mul rfl rfl rfl (rfl)) ?_;refine GT_S rfl (V_gtr rfl rfl rfl) ?_;refine Zv rfl ?_;refine GT_split (d := 64) rfl (fun q6 => ?_) (fun q6 => ?_)
              · refine Zr 17 rfl ?_;refine GT_nil ?_;refine GE_cond_t rfl ?_;refine Zq [] 1 [] rfl rfl ?_;refine Zv rfl ?_;refine GT_nil ?_;refine GE_ret Tryz.func69 rfl (fun w hw => ?_)
                exact ⟨14, fun q => absurd q (by decide), rfl, hw.nil⟩
              · refine Zg rfl fo_70_8 rfl ag_2 rfl ?_;refine GT_S rfl (V_mul rfl rfl rfl (rfl)) ?_;refine Zr 2 rfl ?_;refine Zf rfl fo_75_1 ?_;refine Zf rfl fo_24_4 ?_;refine ZL rfl ag_2 (CellAt.old (h.blk.cell rfl) (noM _)) ?_;refine Zr 2 rfl ?_;refine Zf rfl fo_81_0 ?_;refine Zf rfl fo_78_3 ?_;refine ZL rfl ag_2 (CellAt.old (hg.cell rfl) (noM _)) ?_;refine GT_S rfl (V_mul rfl rfl rfl (rfl)) ?_;refine GT_S rfl (V_gtr rfl rfl rfl) ?_;refine Zr 2 rfl ?_;refine GT_nil ?_;refine GE_cond rfl (fun q7 => ?_) (fun q7 => ?_)
                · refine Zq [] 1 [] rfl rfl ?_;refine Zv rfl ?_;refine GT_nil ?_;refine GE_ret Tryz.func69 rfl (fun w hw => ?_)
                  exact ⟨14, fun q => absurd q (by decide), rfl, hw.nil⟩
                · refine GE_skip ?_;refine GE_inBlock ?_;refine Zq [] 1 [] rfl rfl ?_;refine Zv rfl ?_;refine GT_nil ?_;refine GE_ret Tryz.func69 rfl (fun w hw => ?_)
                  exact ⟨0, fun _ => ⟨k, (a 6).toNat, hk5, hkl, by omega, by omega, by rw [hq]; exact q3, by rw [hq]; exact here_kind hp q3 q4, by rw [hq]; exact here_grown hS.r1 hS.r2 q3 q4, by omega⟩, rfl, hw.nil⟩
end
end Go.Proofs.YtncleikbggjmjaaGreatDoor.Plg
/- A shop of plates: how thick a growth is; plates that are added, walked. -/
namespace Go.Proofs.YtncleikbggjmjaaGreatDoor.Plg
open Go.Sx Go.Proofs Go.RowKit
open Side (eN eN_len eN_one getD_memT sh_trans)
open Lis (Plt ePlt ePlt_len)
abbrev Foc (S : Shp) (q : PH) (l1 l2 : List PH) (G : Items) : Items := (S.b, blk S.cells 75) :: (q.g, plB q.p q.r) :: (q.r, q.ob) :: (S.s1.2.2 ++ (S.s2.2.2 ++ (S.s3.2.2 ++ (S.s4.2.2 ++ (PJ l1 ++ (PJ l2 ++ G))))))
theorem PJ_mid (l1 : List PH) (q : PH) (l2 : List PH) (G : Items) : PJ (l1 ++ q :: l2) ++ G = PJ l1 ++ ((q.g, plB q.p q.r) :: (q.r, q.ob) :: (PJ l2 ++ G)) := by
  rw [PJ_append, PJ]; simp
section
variable {w w0 : World} {S : Shp} {G : Items} {q : PH} {l1 l2 : List PH} {M : Nat → Prop} {p : Plt} {a : Nat → Int} {k k2 : Nat}
theorem foc (h : S.qs = l1 ++ q :: l2) (m : SH w0 M (S.W G) w) : SH w0 M (Foc S q l1 l2 G) w := by
  unfold Shp.W at m
  rw [show PJ S.qs ++ G = PJ l1 ++ ((q.g, plB q.p q.r) :: (q.r, q.ob) :: (PJ l2 ++ G)) by rw [h, PJ_mid]] at m
  exact m.hs (C := cx Tryz.prog (by decide) 0 0 w0 M fun _ _ => True) (HS.cons rfl (HS.cons rfl (HS.cons rfl (HS.chunk (HS.chunk (HS.chunk (HS.chunk (HS.chunk HS.last))))))))
theorem unfoc (h : S.qs = l1 ++ q :: l2) (m : SH w0 M (Foc S q l1 l2 G) w) : SH w0 M (S.W G) w := by
  unfold Shp.W
  rw [show PJ S.qs ++ G = PJ l1 ++ ((q.g, plB q.p q.r) :: (q.r, q.ob) :: (PJ l2 ++ G)) by rw [h, PJ_mid]]
  exact m.hs (C := cx Tryz.prog (by decide) 0 0 w0 M fun _ _ => True) (HS.cons rfl (HS.chunk (HS.chunk (HS.chunk (HS.chunk (HS.chunk (HS.cons rfl (HS.cons rfl HS.last))))))))
theorem C_growthS (h : ShAt w S) (hk2 : k2 < S.ts.length) (hb : a 6 = k2) : Con Tryz.prog 71 [ptr S.b 0, aV a] w (fun _ : Int × Int × Int => True) (fun y => .agg #[I y.1, I y.2.1, I y.2.2]) (fun _ => []) := C_growth h.blk h.r2 hk2 hb
set_option maxRecDepth 20000 in
set_option maxHeartbeats 1000000 in
theorem C_lay (h : ShAt w S) (hS : S.Ok) (hkl : k < S.qs.length) (hk5 : a 5 = k) (hk2 : k2 < S.ts.length) (hk6 : a 6 = k2) (hkd : (S.qs.getD k default).p.kind ≤ 2) :
    Con Tryz.prog 70 [ptr S.b 0, aV a] w (fun _ : Int × Int => True) (fun y => .tuple #[I y.1, I y.2]) (fun _ => []) := by
  have hg := h.pl k hkl
  have hp := (hS.ps _ (getD_memT hkl)).2
  generalize hq : S.qs.getD k default = q at hg hp hkd
  obtain ⟨hp1, hp2, hp3, hp4, hp5⟩ := hp
  refine Ret_of (vs := [_, _]) hm none' Tryz.func70 rfl Tryz.ntmps70 rfl ?_
  dsimp only [slotsOf]
  refine Zp 3 [0] rfl ?_;refine Zx [_, _, _, _, _, _, _, _, _, _, _, _, _] rfl rfl fun b3 => ?_;refine Zr 2 rfl ?_;refine Zz ?_;refine GE_drawn (.st 0 (.st 1 (.st 2 (.st 4 (.st 5 (.br (.ld 3 [4, 5] (.br (.ld 6 [] (.ld 7 [0, 1, 2, 4, 5] (.st 8 (.ld 9 [] .nil)))) (.ld 7 [0, 1, 2, 4, 5] (.ld 6 [] (.st 8 (.ld 9 [] .nil)))))) (.ld 7 [0, 1, 2, 4, 5] (.ld 3 [4, 5] (.ld 6 [] (.st 8 (.ld 9 [] .nil))))))))))) [3, 6, 7, 9] (by decide +kernel) ?_;refine Zv rfl ?_;refine Zg rfl fo_70_5 rfl ag_3 rfl ?_;refine Zv rfl ?_;refine ZN [_, _, _, _, _, _, _, _, _, _, _, _, _] rfl ag_70 sz_70 rfl rfl ?_;refine GT_br ?_ ?_
  · refine Zc rfl rn_29 (fun w hw => hq ▸ C_getK (h.sh hw.nil) hkl hk5) (Rv rfl rfl (GR_S rfl rfl (V_loadN (vs := [_, _, _, _, _, _, _, _, _, _, _, _, _]) rfl rfl ag_70 sz_70 rfl (CellsAt.item rfl)) GR_nil)) ?_;refine GT_br ?_ ?_
    · refine ZC rfl rn_71 (fun w hw => C_growthS (h.sh hw.nil) hk2 hk6) (fun _ _ => GR_nil) (fun gw _ => ?_);refine GT_alloc rfl rfl rfl rfl rfl zc_165 (fun _ => Rv rfl rfl (Rf rfl fo_70_5 rfl (Rl rfl ag_3 rfl rfl (Rv rfl rfl (GR_S rfl rfl (V_loadN (vs := [_, _, _, _, _, _, _, _, _, _, _, _, _]) rfl rfl ag_70 sz_70 rfl (CellsAt.item rfl)) GR_nil))))) (fun b7 => ?_);refine Zv rfl ?_;refine ZS [_, _, _] [_, _, _] rfl rfl sz_165 rfl rfl rfl ?_;refine GT_nil ?_;refine Zq [0, 3, 6, 7] 7 [] rfl rfl ?_;refine Zr 2 rfl ?_;refine Zf rfl fo_81_0 ?_;refine Zf rfl fo_78_0 ?_;refine ZL rfl ag_3 (CellAt.old (hg.cell rfl) (noM _)) ?_;refine GT_S rfl (V_add rfl rfl rfl (wrap_i64 (show -9223372036854775808 ≤ q.p.kind + 1 ∧ q.p.kind + 1 ≤ 9223372036854775807 by omega))) ?_;refine Zv rfl ?_;refine Zz ?_;refine Zs [0, 3, 6, 7, 8] rfl ?_;refine GE_drawn (.st 0 (.st 1 (.st 2 (.st 3 (.st 4 (.st 5 (.st 6 (.st 7 (.st 8 (.st 9 .nil)))))))))) [] (by decide +kernel) ?_;refine Zg rfl fo_165_1 rfl ag_2 rfl ?_;refine GT_S rfl (V_mul rfl rfl rfl (rfl)) ?_;refine Zr 2 rfl ?_;refine Zf rfl fo_81_0 ?_;refine Zf rfl fo_78_3 ?_;refine ZL rfl ag_2 (CellAt.old (hg.cell rfl) (noM _)) ?_;refine GT_S rfl (V_quo rfl rfl rfl (by omega) (rfl)) ?_;refine Zv rfl ?_;refine Zz ?_;refine GE_seq ?_;refine Zs [0, 3, 6, 7, 8, 9] rfl ?_;refine GE_drawn (.st 0 (.st 1 (.st 2 (.st 3 (.st 4 (.st 5 (.st 6 (.st 7 (.st 8 (.st 9 (.st 10 (.st 11 (.st 12 (.st 13 (.st 14 (.st 15 (.st 16 (.st 17 (.st 18 (.st 19 (.st 20 (.st 21 (.st 22 (.st 23 (.st 24 (.st 25 (.st 26 (.st 27 (.st 28 (.st 29 (.st 30 (.ld 31 [] (.st 32 (.st 33 .nil)))))))))))))))))))))))))))))))))) [31] (by decide +kernel) ?_;refine Zg rfl fo_165_0 rfl ag_2 rfl ?_;refine GT_S rfl (V_mul rfl rfl rfl (rfl)) ?_;refine Zr 2 rfl ?_;refine Zf rfl fo_81_0 ?_;refine Zf rfl fo_78_3 ?_;refine ZL rfl ag_2 (CellAt.old (hg.cell rfl) (noM _)) ?_;refine GT_S rfl (V_quo rfl rfl rfl (by omega) (rfl)) ?_;refine Zr 2 rfl ?_;refine Zf rfl fo_75_1 ?_;refine Zf rfl fo_24_2 ?_;refine ZL rfl ag_2 (CellAt.old (h.blk.cell rfl) (noM _)) ?_;refine GT_S rfl (V_lss rfl rfl rfl) ?_;refine Zv rfl ?_;refine GT_split (d := 47) rfl (fun q1 => ?_) (fun q1 => ?_)
      · refine Zr 15 rfl ?_;refine GT_skip_ld rfl rfl rfl rfl rfl (by decide) rfl rfl rfl GR_nil ?_;refine Zr 2 rfl ?_;refine GT_nil ?_;refine GE_cond_t rfl ?_;refine Zq [] 2 [] rfl rfl ?_;refine Zr 2 rfl ?_;refine GT_nil ?_;refine GE_ret Tryz.func70 ⟨_, _, rfl, rfl, rfl⟩ (fun w hw => ?_)
        exact ⟨(0, 20), trivial, rfl, hw.nil⟩
      · refine Zr 4 rfl ?_;refine Zf rfl fo_75_1 ?_;refine Zf rfl fo_24_0 ?_;refine GT_S rfl (V_indexArr rfl rfl rfl Tryz.underlying22 sz_2 (kk := q.p.kind.toNat + 1) (by omega) (by omega)) ?_;refine ZL rfl ag_2 (CellAt.old (h.blk.cell (by rw [show 1 + 0 + (q.p.kind.toNat + 1) * 1 = 1 + (q.p.kind.toNat + 1) by omega]; exact shC_at S.R (by omega))) (noM _)) ?_;refine Zr 3 rfl ?_;refine Zf rfl fo_75_1 ?_;refine Zf rfl fo_24_1 ?_;refine GT_S rfl (V_indexArr rfl rfl rfl Tryz.underlying22 sz_2 (kk := q.p.kind.toNat + 1) (by omega) (by omega)) ?_;refine ZL rfl ag_2 (CellAt.old (h.blk.cell (by rw [show 1 + 4 + (q.p.kind.toNat + 1) * 1 = 1 + (4 + (q.p.kind.toNat + 1)) by omega]; exact shC_at S.R (by omega))) (noM _)) ?_;refine Zc rfl rn_67 (fun w hw => C_between) GR_nil ?_;refine GT_S rfl (V_not rfl rfl) ?_;refine Zv rfl ?_;refine GT_nil ?_;refine GE_condNot rfl (fun q2 => ?_) (fun q2 => ?_)
        · refine Zq [] 2 [] rfl rfl ?_;refine Zr 2 rfl ?_;refine GT_nil ?_;refine GE_ret Tryz.func70 ⟨_, _, rfl, rfl, rfl⟩ (fun w hw => ?_)
          exact ⟨(0, 20), trivial, rfl, hw.nil⟩
        · refine GE_skip ?_;refine GE_seq ?_;refine GE_seq ?_;refine Zs [0, 3, 7, 9] rfl ?_;refine GE_drawn (.st 0 (.st 1 (.st 2 (.st 3 (.st 4 (.st 5 (.st 6 (.st 7 (.st 8 (.st 9 (.st 10 (.st 11 .nil)))))))))))) [] (by decide +kernel) ?_;refine Zr 2 rfl ?_;refine Zf rfl fo_75_3 ?_;refine ZL rfl ag_72 (CellAt.old (h.blk.cell rfl) (noM _)) ?_;refine Zg rfl fo_70_6 rfl ag_3 rfl ?_;refine GT_S rfl (V_index rfl rfl rfl Tryz.underlying72 sz_161 (k := k2) hk6 hk2 (h.r2.isSome hk2)) ?_;refine GT_S rfl (V_fieldA rfl rfl fo_161_0) ?_;refine ZL rfl ag_2 (h.r2.at0 noM hk2 rfl) ?_;refine Zg rfl fo_165_1 rfl ag_2 rfl ?_;refine GT_S rfl (V_lss rfl rfl rfl) ?_;refine GT_nil ?_;refine GE_cond rfl (fun q3 => ?_) (fun q3 => ?_)
          · refine Zq [] 2 [] rfl rfl ?_;refine Zr 2 rfl ?_;refine GT_nil ?_;refine GE_ret Tryz.func70 ⟨_, _, rfl, rfl, rfl⟩ (fun w hw => ?_)
            exact ⟨(0, 13), trivial, rfl, hw.nil⟩
          · refine GE_skip ?_;refine Zq [9] 3 [] rfl rfl ?_;refine Zr 3 rfl ?_;refine GT_nil ?_;refine GE_ret Tryz.func70 ⟨_, _, rfl, rfl, rfl⟩ (fun w hw => ?_)
            exact ⟨(_, 0), trivial, rfl, hw.nil⟩
    · refine GT_alloc rfl rfl rfl rfl rfl zc_165 (fun _ => Rv rfl rfl (Rf rfl fo_70_5 rfl (Rl rfl ag_3 rfl rfl (Rv rfl rfl (GR_S rfl rfl (V_loadN (vs := [_, _, _, _, _, _, _, _, _, _, _, _, _]) rfl rfl ag_70 sz_70 rfl (CellsAt.item rfl)) GR_nil))))) (fun b7 => ?_);refine ZC rfl rn_71 (fun w hw => C_growthS (h.sh hw.nil) hk2 hk6) (fun _ _ => GR_nil) (fun gw _ => ?_);refine Zv rfl ?_;refine ZS [_, _, _] [_, _, _] rfl rfl sz_165 rfl rfl rfl ?_;refine GT_nil ?_;refine Zq [0, 3, 6, 7] 7 [] rfl rfl ?_;refine Zr 2 rfl ?_;refine Zf rfl fo_81_0 ?_;refine Zf rfl fo_78_0 ?_;refine ZL rfl ag_3 (CellAt.old (hg.cell rfl) (noM _)) ?_;refine GT_S rfl (V_add rfl rfl rfl (wrap_i64 (show -9223372036854775808 ≤ q.p.kind + 1 ∧ q.p.kind + 1 ≤ 9223372036854775807 by omega))) ?_;refine Zv rfl ?_;refine Zz ?_;refine Zs [0, 3, 6, 7, 8] rfl ?_;refine GE_drawn (.st 0 (.st 1 (.st 2 (.st 3 (.st 4 (.st 5 (.st 6 (.st 7 (.st 8 (.st 9 .nil)))))))))) [] (by decide +kernel) ?_;refine Zg rfl fo_165_1 rfl ag_2 rfl ?_;refine GT_S rfl (V_mul rfl rfl rfl (rfl)) ?_;refine Zr 2 rfl ?_;refine Zf rfl fo_81_0 ?_;refine Zf rfl fo_78_3 ?_;refine ZL rfl ag_2 (CellAt.old (hg.cell rfl) (noM _)) ?_;refine GT_S rfl (V_quo rfl rfl rfl (by omega) (rfl)) ?_;refine Zv rfl ?_;refine Zz ?_;refine GE_seq ?_;refine Zs [0, 3, 6, 7, 8, 9] rfl ?_;refine GE_drawn (.st 0 (.st 1 (.st 2 (.st 3 (.st 4 (.st 5 (.st 6 (.st 7 (.st 8 (.st 9 (.st 10 (.st 11 (.st 12 (.st 13 (.st 14 (.st 15 (.st 16 (.st 17 (.st 18 (.st 19 (.st 20 (.st 21 (.st 22 (.st 23 (.st 24 (.st 25 (.st 26 (.st 27 (.st 28 (.st 29 (.st 30 (.ld 31 [] (.st 32 (.st 33 .nil)))))))))))))))))))))))))))))))))) [31] (by decide +kernel) ?_;refine Zg rfl fo_165_0 rfl ag_2 rfl ?_;refine GT_S rfl (V_mul rfl rfl rfl (rfl)) ?_;refine Zr 2 rfl ?_;refine Zf rfl fo_81_0 ?_;refine Zf rfl fo_78_3 ?_;refine ZL rfl ag_2 (CellAt.old (hg.cell rfl) (noM _)) ?_;refine GT_S rfl (V_quo rfl rfl rfl (by omega) (rfl)) ?_;refine Zr 2 rfl ?_;refine Zf rfl fo_75_1 ?_;refine Zf rfl fo_24_2 ?_;refine ZL rfl ag_2 (CellAt.old (h.blk.cell rfl) (noM _)) ?_;refine GT_S rfl (V_lss rfl rfl rfl) ?_;refine Zv rfl ?_;refine GT_split (d := 47) rfl (fun q1 => ?_) (fun q1 => ?_)
      · refine Zr 15 rfl ?_;refine GT_skip_ld rfl rfl rfl rfl rfl (by decide) rfl rfl rfl GR_nil ?_;refine Zr 2 rfl ?_;refine GT_nil ?_;refine GE_cond_t rfl ?_;refine Zq [] 2 [] rfl rfl ?_;refine Zr 2 rfl ?_;refine GT_nil ?_;refine GE_ret Tryz.func70 ⟨_, _, rfl, rfl, rfl⟩ (fun w hw => ?_)
        exact ⟨(0, 20), trivial, rfl, hw.nil⟩
      · refine Zr 4 rfl ?_;refine Zf rfl fo_75_1 ?_;refine Zf rfl fo_24_0 ?_;refine GT_S rfl (V_indexArr rfl rfl rfl Tryz.underlying22 sz_2 (kk := q.p.kind.toNat + 1) (by omega) (by omega)) ?_;refine ZL rfl ag_2 (CellAt.old (h.blk.cell (by rw [show 1 + 0 + (q.p.kind.toNat + 1) * 1 = 1 + (q.p.kind.toNat + 1) by omega]; exact shC_at S.R (by omega))) (noM _)) ?_;refine Zr 3 rfl ?_;refine Zf rfl fo_75_1 ?_;refine Zf rfl fo_24_1 ?_;refine GT_S rfl (V_indexArr rfl rfl rfl Tryz.underlying22 sz_2 (kk := q.p.kind.toNat + 1) (by omega) (by omega)) ?_;refine ZL rfl ag_2 (CellAt.old (h.blk.cell (by rw [show 1 + 4 + (q.p.kind.toNat + 1) * 1 = 1 + (4 + (q.p.kind.toNat + 1)) by omega]; exact shC_at S.R (by omega))) (noM _)) ?_;refine Zc rfl rn_67 (fun w hw => C_between) GR_nil ?_;refine GT_S rfl (V_not rfl rfl) ?_;refine Zv rfl ?_;refine GT_nil ?_;refine GE_condNot rfl (fun q2 => ?_) (fun q2 => ?_)
        · refine Zq [] 2 [] rfl rfl ?_;refine Zr 2 rfl ?_;refine GT_nil ?_;refine GE_ret Tryz.func70 ⟨_, _, rfl, rfl, rfl⟩ (fun w hw => ?_)
          exact ⟨(0, 20), trivial, rfl, hw.nil⟩
        · refine GE_skip ?_;refine GE_seq ?_;refine GE_seq ?_;refine Zs [0, 3, 7, 9] rfl ?_;refine GE_drawn (.st 0 (.st 1 (.st 2 (.st 3 (.st 4 (.st 5 (.st 6 (.st 7 (.st 8 (.st 9 (.st 10 (.st 11 .nil)))))))))))) [] (by decide +kernel) ?_;refine Zr 2 rfl ?_;refine Zf rfl fo_75_3 ?_;refine ZL rfl ag_72 (CellAt.old (h.blk.cell rfl) (noM _)) ?_;refine Zg rfl fo_70_6 rfl ag_3 rfl ?_;refine GT_S rfl (V_index rfl rfl rfl Tryz.underlying72 sz_161 (k := k2) hk6 hk2 (h.r2.isSome hk2)) ?_;refine GT_S rfl (V_fieldA rfl rfl fo_161_0) ?_;refine ZL rfl ag_2 (h.r2.at0 noM hk2 rfl) ?_;refine Zg rfl fo_165_1 rfl ag_2 rfl ?_;refine GT_S rfl (V_lss rfl rfl rfl) ?_;refine GT_nil ?_;refine GE_cond rfl (fun q3 => ?_) (fun q3 => ?_)
          · refine Zq [] 2 [] rfl rfl ?_;refine Zr 2 rfl ?_;refine GT_nil ?_;refine GE_ret Tryz.func70 ⟨_, _, rfl, rfl, rfl⟩ (fun w hw => ?_)
            exact ⟨(0, 13), trivial, rfl, hw.nil⟩
          · refine GE_skip ?_;refine Zq [9] 3 [] rfl rfl ?_;refine Zr 3 rfl ?_;refine GT_nil ?_;refine GE_ret Tryz.func70 ⟨_, _, rfl, rfl, rfl⟩ (fun w hw => ?_)
            exact ⟨(_, 0), trivial, rfl, hw.nil⟩
  · refine GT_alloc rfl rfl rfl rfl rfl zc_165 (fun _ => Rv rfl rfl (Rf rfl fo_70_5 rfl (Rl rfl ag_3 rfl rfl (Rv rfl rfl (GR_S rfl rfl (V_loadN (vs := [_, _, _, _, _, _, _, _, _, _, _, _, _]) rfl rfl ag_70 sz_70 rfl (CellsAt.item rfl)) GR_nil))))) (fun b7 => ?_);refine Zc rfl rn_29 (fun w hw => hq ▸ C_getK (h.sh hw.nil) hkl hk5) (Rv rfl rfl (GR_S rfl rfl (V_loadN (vs := [_, _, _, _, _, _, _, _, _, _, _, _, _]) rfl rfl ag_70 sz_70 rfl (CellsAt.item rfl)) GR_nil)) ?_;refine ZC rfl rn_71 (fun w hw => C_growthS (h.sh hw.nil) hk2 hk6) (fun _ _ => GR_nil) (fun gw _ => ?_);refine Zv rfl ?_;refine ZS [_, _, _] [_, _, _] rfl rfl sz_165 rfl rfl rfl ?_;refine GT_nil ?_;refine Zq [0, 3, 6, 7] 7 [] rfl rfl ?_;refine Zr 2 rfl ?_;refine Zf rfl fo_81_0 ?_;refine Zf rfl fo_78_0 ?_;refine ZL rfl ag_3 (CellAt.old (hg.cell rfl) (noM _)) ?_;refine GT_S rfl (V_add rfl rfl rfl (wrap_i64 (show -9223372036854775808 ≤ q.p.kind + 1 ∧ q.p.kind + 1 ≤ 9223372036854775807 by omega))) ?_;refine Zv rfl ?_;refine Zz ?_;refine Zs [0, 3, 6, 7, 8] rfl ?_;refine GE_drawn (.st 0 (.st 1 (.st 2 (.st 3 (.st 4 (.st 5 (.st 6 (.st 7 (.st 8 (.st 9 .nil)))))))))) [] (by decide +kernel) ?_;refine Zg rfl fo_165_1 rfl ag_2 rfl ?_;refine GT_S rfl (V_mul rfl rfl rfl (rfl)) ?_;refine Zr 2 rfl ?_;refine Zf rfl fo_81_0 ?_;refine Zf rfl fo_78_3 ?_;refine ZL rfl ag_2 (CellAt.old (hg.cell rfl) (noM _)) ?_;refine GT_S rfl (V_quo rfl rfl rfl (by omega) (rfl)) ?_;refine Zv rfl ?_;refine Zz ?_;refine GE_seq ?_;refine Zs [0, 3, 6, 7, 8, 9] rfl ?_;refine GE_drawn (.st 0 (.st 1 (.st 2 (.st 3 (.st 4 (.st 5 (.st 6 (.st 7 (.st 8 (.st 9 (.st 10 (.st 11 (.st 12 (.st 13 (.st 14 (.st 15 (.st 16 (.st 17 (.st 18 (.st 19 (.st 20 (.st 21 (.st 22 (.st 23 (.st 24 (.st 25 (.st 26 (.st 27 (.st 28 (.st 29 (.st 30 (.ld 31 [] (.st 32 (.st 33 .nil)))))))))))))))))))))))))))))))))) [31] (by decide +kernel) ?_;refine Zg rfl fo_165_0 rfl ag_2 rfl ?_;refine GT_S rfl (V_mul rfl rfl rfl (rfl)) ?_;refine Zr 2 rfl ?_;refine Zf rfl fo_81_0 ?_;refine Zf rfl fo_78_3 ?_;refine ZL rfl ag_2 (CellAt.old (hg.cell rfl) (noM _)) ?_;refine GT_S rfl (V_quo rfl rfl rfl (by omega) (rfl)) ?_;refine Zr 2 rfl ?_;refine Zf rfl fo_75_1 ?_;refine Zf rfl fo_24_2 ?_;refine ZL rfl ag_2 (CellAt.old (h.blk.cell rfl) (noM _)) ?_;refine GT_S rfl (V_lss rfl rfl rfl) ?_;refine Zv rfl ?_;refine GT_split (d := 47) rfl (fun q1 => ?_) (fun q1 => ?_)
    · refine Zr 15 rfl ?_;refine GT_skip_ld rfl rfl rfl rfl rfl (by decide) rfl rfl rfl GR_nil ?_;refine Zr 2 rfl ?_;refine GT_nil ?_;refine GE_cond_t rfl ?_;refine Zq [] 2 [] rfl rfl ?_;refine Zr 2 rfl ?_;refine GT_nil ?_;refine GE_ret Tryz.func70 ⟨_, _, rfl, rfl, rfl⟩ (fun w hw => ?_)
      exact ⟨(0, 20), trivial, rfl, hw.nil⟩
    · refine Zr 4 rfl ?_;refine Zf rfl fo_75_1 ?_;refine Zf rfl fo_24_0 ?_;refine GT_S rfl (V_indexArr rfl rfl rfl Tryz.underlying22 sz_2 (kk := q.p.kind.toNat + 1) (by omega) (by omega)) ?_;refine ZL rfl ag_2 (CellAt.old (h.blk.cell (by rw [show 1 + 0 + (q.p.kind.toNat + 1) * 1 = 1 + (q.p.kind.toNat + 1) by omega]; exact shC_at S.R (by omega))) (noM _)) ?_;refine Zr 3 rfl ?_;refine Zf rfl fo_75_1 ?_;refine Zf rfl fo_24_1 ?_;refine GT_S rfl (V_indexArr rfl rfl rfl Tryz.underlying22 sz_2 (kk := q.p.kind.toNat + 1) (by omega) (by omega)) ?_;refine ZL rfl ag_2 (CellAt.old (h.blk.cell (by rw [show 1 + 4 + (q.p.kind.toNat + 1) * 1 = 1 + (4 + (q.p.kind.toNat + 1)) by omega]; exact shC_at S.R (by omega))) (noM _)) ?_;refine Zc rfl rn_67 (fun w hw => C_between) GR_nil ?_;refine GT_S rfl (V_not rfl rfl) ?_;refine Zv rfl ?_;refine GT_nil ?_;refine GE_condNot rfl (fun q2 => ?_) (fun q2 => ?_)
      · refine Zq [] 2 [] rfl rfl ?_;refine Zr 2 rfl ?_;refine GT_nil ?_;refine GE_ret Tryz.func70 ⟨_, _, rfl, rfl, rfl⟩ (fun w hw => ?_)
        exact ⟨(0, 20), trivial, rfl, hw.nil⟩
      · refine GE_skip ?_;refine GE_seq ?_;refine GE_seq ?_;refine Zs [0, 3, 7, 9] rfl ?_;refine GE_drawn (.st 0 (.st 1 (.st 2 (.st 3 (.st 4 (.st 5 (.st 6 (.st 7 (.st 8 (.st 9 (.st 10 (.st 11 .nil)))))))))))) [] (by decide +kernel) ?_;refine Zr 2 rfl ?_;refine Zf rfl fo_75_3 ?_;refine ZL rfl ag_72 (CellAt.old (h.blk.cell rfl) (noM _)) ?_;refine Zg rfl fo_70_6 rfl ag_3 rfl ?_;refine GT_S rfl (V_index rfl rfl rfl Tryz.underlying72 sz_161 (k := k2) hk6 hk2 (h.r2.isSome hk2)) ?_;refine GT_S rfl (V_fieldA rfl rfl fo_161_0) ?_;refine ZL rfl ag_2 (h.r2.at0 noM hk2 rfl) ?_;refine Zg rfl fo_165_1 rfl ag_2 rfl ?_;refine GT_S rfl (V_lss rfl rfl rfl) ?_;refine GT_nil ?_;refine GE_cond rfl (fun q3 => ?_) (fun q3 => ?_)
        · refine Zq [] 2 [] rfl rfl ?_;refine Zr 2 rfl ?_;refine GT_nil ?_;refine GE_ret Tryz.func70 ⟨_, _, rfl, rfl, rfl⟩ (fun w hw => ?_)
          exact ⟨(0, 13), trivial, rfl, hw.nil⟩
        · refine GE_skip ?_;refine Zq [9] 3 [] rfl rfl ?_;refine Zr 3 rfl ?_;refine GT_nil ?_;refine GE_ret Tryz.func70 ⟨_, _, rfl, rfl, rfl⟩ (fun w hw => ?_)
          exact ⟨(_, 0), trivial, rfl, hw.nil⟩
end
end Go.Proofs.YtncleikbggjmjaaGreatDoor.Plg
/- A shop of plates: what its acts do; plates that are added, retired, flawed and mended, walked. -/
namespace Go.Proofs.YtncleikbggjmjaaGreatDoor.Plg
open Go.Sx Go.Proofs Go.RowKit
open Side (eN eN_len eN_one getD_memT sh_trans)
open Lis (Plt ePlt ePlt_len)
abbrev BF := Int → Option Unit
abbrev grownP (p : Plt) : Plt := ⟨p.kind, p.par, p.cut, p.area, p.thick, p.grown + 1, decide (p.kind = 0)⟩
abbrev retP (p : Plt) : Plt := ⟨p.kind, p.par, p.cut, p.area, p.thick, p.grown, true⟩
inductive Step (a : Nat → Int) (x : St) : Int → Int → St → Prop
  | err (n : Int) {e : Int} (he : e ≠ 0) : Step a x n e x
  | lacquer (h0 : a 0 = 1) (hl : x.l.length < 256) : Step a x x.l.length 0 ⟨x.l ++ [(⟨0, -1, a 1, a 2, 0, 0, false⟩, fun _ => none)], x.nf⟩
  | bath (h0 : a 0 = 2) (n : Int) : Step a x n 0 x
  | grow (h0 : a 0 = 3) {l1 l2 : List (Plt × BF)} {p : Plt} {f : BF} (h : x.l = l1 ++ (p, f) :: l2) (h5 : a 5 = l1.length) (hk : p.kind ≤ 2) (hl : x.l.length < 256) (thick : Int) : Step a x x.l.length 0 ⟨l1 ++ (grownP p, f) :: l2 ++ [(⟨p.kind + 1, a 5, p.cut, p.area, thick, 0, false⟩, f)], x.nf⟩
  | flaw (h0 : a 0 = 4) {l1 l2 : List (Plt × BF)} {p : Plt} {f : BF} (h : x.l = l1 ++ (p, f) :: l2) (h5 : a 5 = l1.length) (hn : x.nf < 64) : Step a x x.nf 0 ⟨l1 ++ (p, upd f x.nf (some ())) :: l2, x.nf + 1⟩
  | mend (h0 : a 0 = 5) {l1 l2 : List (Plt × BF)} {p : Plt} {f : BF} (h : x.l = l1 ++ (p, f) :: l2) (h5 : a 5 = l1.length) (h12 : 0 ≤ a 12 ∧ a 12 < x.nf) (hf : (f (a 12)).isSome = true) : Step a x 0 0 ⟨l1 ++ (p, upd f (a 12) none) :: l2, x.nf⟩
  | retire (h0 : a 0 = 6) {l1 l2 : List (Plt × BF)} {p : Plt} {f : BF} (h : x.l = l1 ++ (p, f) :: l2) (h5 : a 5 = l1.length) : Step a x 0 0 ⟨l1 ++ (retP p, f) :: l2, x.nf⟩
structure After (a : Nat → Int) (S : Shp) (y : Shp × Int × Int) : Prop where
  ok : y.1.Ok
  b : y.1.b = S.b
  R : y.1.R = S.R
  al : y.1.al = S.al
  s4 : y.1.s4 = S.s4
  st : Step a S.st y.2.1 y.2.2 y.1.st
def ActC (fi : Nat) (a : Nat → Int) : Prop := ∀ (w0 w : World) (S : Shp) (G : Items), SH w0 none' (S.W G) w → S.Ok →
  Ret Tryz.prog fi [ptr S.b 0, aV a].toArray w fun v w' => ∃ y : Shp × Int × Int, After a S y ∧ v = .tuple #[I y.2.1, I y.2.2] ∧ SH w0 none' (y.1.W G) w'
theorem After.err {a : Nat → Int} {S : Shp} (h : S.Ok) {e : Int} (he : e ≠ 0) : After a S (S, 0, e) := ⟨h, rfl, rfl, rfl, rfl, .err 0 he⟩
abbrev PH.pf (q : PH) : Plt × BF := (q.p, q.f)
theorem Shp.Ok.put {S : Shp} (h : S.Ok) {q q' : PH} {l1 l2 : List PH} (hq : S.qs = l1 ++ q :: l2) (hg : q'.g = q.g) (hm : MapIs kK vU q'.f q'.ob) (hp : PlOk1 q'.p) {fl : List (Int × Int)} {s3 : Sl} (o3 : Own 2 121 eOr fl (.slice s3.1 fl.length s3.2.1) s3.2.2) (n3 : fl.length ≤ 64) : ({ S with qs := l1 ++ q' :: l2, fl := fl, s3 := s3 } : Shp).Ok := by
  have e1 : (l1 ++ q' :: l2).map (·.g) = S.qs.map (·.g) := by rw [hq]; simp [hg]
  have e2 : (l1 ++ q' :: l2).length = S.qs.length := by rw [hq]; simp
  refine ⟨h.r1, h.r2, ?_, h.o2, o3, h.o4, ?_, h.n2, n3, h.n4, ?_⟩
  · unfold Shp.gs; dsimp only; rw [e1, e2]; exact h.o1
  · dsimp only; rw [e2]; exact h.n1
  · intro z hz
    dsimp only at hz
    rw [List.mem_append, List.mem_cons] at hz
    rcases hz with hz | rfl | hz
    · exact h.ps z (by rw [hq]; exact List.mem_append_left _ hz)
    · exact ⟨hm, hp⟩
    · exact h.ps z (by rw [hq]; exact List.mem_append_right _ (List.mem_cons_of_mem _ hz))
theorem split_at {α : Type} [Inhabited α] {l : List α} {k : Nat} (h : k < l.length) : ∃ l1 l2, l = l1 ++ l.getD k default :: l2 ∧ l1.length = k :=
  ⟨l.take k, l.drop (k + 1), by rw [show l.getD k default = l[k] by simp [List.getD, h], List.getElem_cons_drop, List.take_append_drop], by rw [List.length_take]; omega⟩
section
variable {w w0 : World} {S : Shp} {G : Items} {q : PH} {l1 l2 : List PH} {M : Nat → Prop} {p : Plt} {a : Nat → Int} {k k2 : Nat}
theorem range_or (a : Nat → Int) (S : Shp) : (a 5 < 0 ∨ (S.qs.length : Int) ≤ a 5) ∨ ∃ (l1 l2 : List PH) (q : PH), S.qs = l1 ++ q :: l2 ∧ a 5 = l1.length ∧ l1.length < S.qs.length ∧ S.qs.getD l1.length default = q := by
  by_cases h : a 5 < 0 ∨ (S.qs.length : Int) ≤ a 5
  · exact .inl h
  · obtain ⟨l1, l2, h1, h2⟩ := split_at (l := S.qs) (k := (a 5).toNat) (by omega)
    exact .inr ⟨l1, l2, _, h1, by omega, by omega, by rw [h2]⟩
theorem unfocP {q' : PH} (h : S.qs = l1 ++ q :: l2) (m : SH w0 M (Foc S q' l1 l2 G) w) : SH w0 M (({ S with qs := l1 ++ q' :: l2 } : Shp).W G) w := by
  have e : S.qs.length = (l1 ++ q' :: l2).length := by rw [h]; simp
  refine unfoc (S := { S with qs := l1 ++ q' :: l2 }) (q := q') (l1 := l1) (l2 := l2) rfl ?_
  have e2 : S.cells = ({ S with qs := l1 ++ q' :: l2 } : Shp).cells := by unfold Shp.cells; rw [e]
  unfold Foc
  rw [← e2]
  exact m
theorem st_split (h : S.qs = l1 ++ q :: l2) : S.st.l = l1.map PH.pf ++ (q.p, q.f) :: l2.map PH.pf := by
  show S.qs.map PH.pf = _
  rw [h, List.map_append, List.map_cons]
theorem st_put {q' : PH} {fl : List (Int × Int)} {s3 : Sl} : ({ S with qs := l1 ++ q' :: l2, fl := fl, s3 := s3 } : Shp).st = ⟨l1.map PH.pf ++ (q'.p, q'.f) :: l2.map PH.pf, fl.length⟩ := by
  show (⟨(l1 ++ q' :: l2).map PH.pf, fl.length⟩ : St) = _
  rw [List.map_append, List.map_cons]
theorem tail {x : Nat × Obj} {H : Items} (h : SH w0 M (x :: H) w) : SH w0 M H w := ⟨h.os, h.tape, h.output, h.size, h.old, fun p hp => h.item p (List.mem_cons_of_mem _ hp), by have := h.nd; rw [List.map_cons, List.nodup_cons] at this; exact this.2⟩
set_option maxRecDepth 20000 in
theorem A_retire (h0 : a 0 = 6) : ActC 47 a := by
  intro w0 w S G m0 hS
  rcases range_or a S with hk | ⟨l1, l2, q, hq, hk5, hkl, hgd⟩
  · refine Ret_ofH (vs := [_, _]) hm none' Tryz.func47 rfl Tryz.ntmps47 rfl m0 ?_
    dsimp only [slotsOf]
    refine Zp 3 [0] rfl ?_;refine Zx [_, _, _, _, _, _, _, _, _, _, _, _, _] rfl rfl fun b3 => ?_;refine Zr 2 rfl ?_;refine GT_nil ?_;refine Zp 5 [3] rfl ?_;refine Zv rfl ?_;refine Zg rfl fo_70_5 rfl ag_3 rfl ?_;refine Zc rfl rn_29 (fun w hw => C_getX (ShAt.of (tail hw) hS) hk) GR_nil ?_;refine Zv rfl ?_;refine Zz ?_;refine Zq [6] 2 [] rfl rfl ?_;refine Zv rfl ?_;refine GT_S rfl (V_eqlNilPtr rfl rfl rfl Tryz.underlying76) ?_;refine GT_nil ?_;refine GE_cond_t rfl ?_;refine Zp 2 [] rfl ?_;refine Zr 2 rfl ?_;refine GT_nil ?_;refine GE_ret Tryz.func47 ⟨_, _, rfl, rfl, rfl⟩ (fun w hw => ?_)
    exact ⟨(S, 0, 5), After.err hS (by decide), rfl, hw.hs (C := cx Tryz.prog hm 0 0 w0 none' fun _ _ => True) (HS.cons rfl (HS.chunk (HS.chunk (HS.chunk (HS.chunk (HS.chunk HS.last))))))⟩
  · have hp := hS.ps q (by rw [hq]; simp)
    have m1 := foc hq m0
    refine Ret_ofH (vs := [_, _]) hm none' Tryz.func47 rfl Tryz.ntmps47 rfl m1 ?_
    dsimp only [slotsOf]
    refine Zp 3 [0] rfl ?_;refine Zx [_, _, _, _, _, _, _, _, _, _, _, _, _] rfl rfl fun b3 => ?_;refine Zr 2 rfl ?_;refine GT_nil ?_;refine Zp 5 [3] rfl ?_;refine Zv rfl ?_;refine Zg rfl fo_70_5 rfl ag_3 rfl ?_;refine Zc rfl rn_29 (fun w hw => hgd ▸ C_getK (ShAt.of (unfoc hq (tail hw)) hS) hkl hk5) GR_nil ?_;refine Zv rfl ?_;refine Zz ?_;refine Zq [6] 2 [] rfl rfl ?_;refine Zv rfl ?_;refine GT_S rfl (V_eqlNilPtr rfl rfl rfl Tryz.underlying76) ?_;refine GT_nil ?_;refine GE_cond_f rfl ?_;refine GE_skip ?_;refine GE_seq ?_;refine Zp 5 [] rfl ?_;refine Zr 2 rfl ?_;refine Zf rfl fo_81_0 ?_;refine Zg rfl fo_78_6 rfl ag_4 rfl ?_;refine GT_nil ?_;refine GE_condB rfl (fun q1 => ?_) (fun q1 => ?_)
    · refine Zq [] 2 [] rfl rfl ?_;refine Zr 2 rfl ?_;refine GT_nil ?_;refine GE_ret Tryz.func47 ⟨_, _, rfl, rfl, rfl⟩ (fun w hw => ?_)
      exact ⟨(S, 0, 10), After.err hS (by decide), rfl, unfoc hq (hw.hs (C := cx Tryz.prog hm 0 0 w0 none' fun _ _ => True) (HS.cons rfl (HS.cons rfl (HS.cons rfl (HS.chunk (HS.chunk (HS.chunk (HS.chunk (HS.chunk (HS.chunk HS.last))))))))))⟩
    · refine GE_skip ?_;refine Zq [6] 5 [4] rfl rfl ?_;refine Zr 2 rfl ?_;refine Zf rfl fo_81_0 ?_;refine Zf rfl fo_78_6 ?_;refine ZS [_] _ rfl rfl sz_4 rfl rfl rfl ?_;refine GT_nil ?_;refine Zq [] 2 [] rfl rfl ?_;refine Zr 2 rfl ?_;refine GT_nil ?_;refine GE_ret Tryz.func47 ⟨_, _, rfl, rfl, rfl⟩ (fun w hw => ?_)
      exact ⟨({ S with qs := l1 ++ ⟨q.g, q.r, q.ob, retP q.p, q.f⟩ :: l2 }, 0, 0), ⟨hS.put (q' := ⟨q.g, q.r, q.ob, retP q.p, q.f⟩) hq rfl hp.1 hp.2 hS.o3 hS.n3, rfl, rfl, rfl, rfl, st_put (S := S) (fl := S.fl) (s3 := S.s3) ▸ Step.retire h0 (st_split hq) (by rw [List.length_map]; exact hk5)⟩, rfl, unfocP (q' := ⟨q.g, q.r, q.ob, retP q.p, q.f⟩) hq (hw.hs (C := cx Tryz.prog hm 0 0 w0 none' fun _ _ => True) (HS.cons rfl (HS.cons rfl (HS.cons rfl (HS.chunk (HS.chunk (HS.chunk (HS.chunk (HS.chunk (HS.chunk HS.last))))))))))⟩
end
end Go.Proofs.YtncleikbggjmjaaGreatDoor.Plg
