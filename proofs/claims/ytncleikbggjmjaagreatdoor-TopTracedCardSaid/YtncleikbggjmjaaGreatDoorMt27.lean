/- Texts of this proof, one behind the other: Wc5, Wc6, Wbj, Wbk, Tg6. -/
import Derived.Test.YtncleikbggjmjaaGreatDoorMt0
import Derived.Test.YtncleikbggjmjaaGreatDoorMt26
import Derived.Test.YtncleikbggjmjaaGreatDoorMt23
import Derived.Test.YtncleikbggjmjaaGreatDoorMt18
/- From the discs to the plate, in plain Lean: suspects, certain discs, lines. -/
namespace Go.Proofs.YtncleikbggjmjaaGreatDoor.Plg
open Go.Sx Go.Proofs Go.RowKit
open Lis
section
variable {p : List Lis.Plt} {br : Nat → Bool} {X : Nat} {N : Int} {d : List Lis.Dsc} {side : Int}
def hdL (br : Nat → Bool) (side : Int) (d : List Lis.Dsc) : List Int := pick d fun i => brD br side (d.getD i default)
theorem susp_has (hR : Room p d side) (hX : X < p.length) (hB : Bears p br X N) {i0 : Nat} (hi0 : i0 < d.length) (hb0 : brD br side (d.getD i0 default) = true) : (X : Int) ∈ suspL p d side (hrsL br side d) := by
  obtain ⟨x, hx, hp⟩ := true_cause hR hX hB hi0 hb0
  unfold suspL
  rw [if_pos (hrs_ok hR), cpt_mem]
  exact List.mem_map.2 ⟨x, hx, hp⟩
theorem cert_has (hR : Room p d side) (hX : X < p.length) (hB : Bears p br X N) {i0 : Nat} (hi0 : i0 < d.length) (hb0 : brD br side (d.getD i0 default) = true) : certL p d side (hrsL br side d) = hdL br side d := by
  obtain ⟨x, hx, _⟩ := true_cause hR hX hB hi0 hb0
  unfold certL
  rw [if_pos (hrs_ok hR), (cert_same hx (left_full hR.dsok hx fun i hi => ⟨⟨(d.getD i default).ser, brD br side (d.getD i default)⟩, List.mem_map.2 ⟨d.getD i default, by rw [show d.getD i default = d[i] by simp [List.getD, hi]]; exact List.getElem_mem hi, rfl⟩, rfl⟩)).1]
  exact pick_congr fun i hi => ((left_iff hR).1 hx).2 i hi
theorem susp_line (hR : Room p d side) {s : Int} (hs : s ∈ suspL p d side (hrsL br side d)) (h0 : 0 ≤ s) {i : Nat} (hi : i < d.length) (hb : brD br side (d.getD i default) = true) : s ∈ upF p p.length (ofS (d.getD i default) side) := by
  unfold suspL at hs
  rw [if_pos (hrs_ok hR), cpt_mem] at hs
  obtain ⟨x, hx, rfl⟩ := List.mem_map.1 hs
  obtain ⟨h1, h2⟩ := (left_iff hR).1 hx
  have h3 := ofS_in (side := side) hR.dsok hi
  have h4 := has_climb h1 (by omega) hi (by rw [h2 i hi]; exact hb)
  exact climb_up hR.plok h0 p.length _ _ (by omega) (by omega) h4
end
theorem mem_hd {p : List Lis.Plt} {br : Nat → Bool} {d : List Lis.Dsc} {side : Int} (hR : Room p d side) {i : Nat} (hi : i < d.length) : (d.getD i default).ser ∈ hdL br side d ↔ brD br side (d.getD i default) = true := mem_pick_ser hR.dsok hi
theorem ofD_ofS (side : Int) (x : Lis.Dsc) : ofD side x = ofS x side := by
  unfold ofD ofS; split <;> rfl
/-! ### what the law's own lists are -/
theorem bad1_bear (qs : List PH) (f v s : Int) : ∀ n, bad1 v s (bearN qs f n) = if 0 ≤ v ∧ v < n ∧ ((qs.getD v.toNat default).f f).isSome = true then [s] else []
  | 0 => by
    rw [bearN]
    rw [if_neg (by omega)]; rfl
  | n + 1 => by
    rw [bearN]
    have ih := bad1_bear qs f v s n
    by_cases h : ((qs.getD n default).f f).isSome = true
    · rw [if_pos h, bad1_snoc, ih]
      by_cases e : v = (n : Int)
      · subst e
        rw [if_neg (by omega), if_pos rfl, if_pos ⟨by omega, by omega, by rw [Int.toNat_natCast]; exact h⟩]; rfl
      · rw [if_neg e, List.append_nil]
        by_cases e2 : 0 ≤ v ∧ v < n ∧ ((qs.getD v.toNat default).f f).isSome = true
        · rw [if_pos e2, if_pos ⟨e2.1, by omega, e2.2.2⟩]
        · rw [if_neg e2, if_neg (fun q => e2 ⟨q.1, by omega, q.2.2⟩)]
    · rw [if_neg h, List.append_nil, ih]
      by_cases e2 : 0 ≤ v ∧ v < n ∧ ((qs.getD v.toNat default).f f).isSome = true
      · rw [if_pos e2, if_pos ⟨e2.1, by omega, e2.2.2⟩]
      · rw [if_neg e2, if_neg (fun q => e2 ⟨q.1, by
          by_cases e3 : v = (n : Int)
          · subst e3; rw [Int.toNat_natCast] at q; exact absurd q.2.2 h
          · omega, q.2.2⟩)]
theorem flat_range {α β : Type} [Inhabited α] (g : α → List β) : ∀ l : List α, l.flatMap g = (List.range l.length).flatMap fun i => g (l.getD i default) := fun l => by
  have e : l = (List.range l.length).map fun i => l.getD i default := by
    apply List.ext_getElem (by simp)
    intro i h1 h2
    simp [List.getD, h1]
  conv => lhs; rw [e]
  rw [List.flatMap_map]
theorem filt_flat {α : Type} (f : Nat → Bool) (g : Nat → α) : ∀ l : List Nat, ((l.filter f).map g) = l.flatMap fun i => if f i = true then [g i] else []
  | [] => rfl
  | x :: l => by
    rw [List.flatMap_cons, List.filter_cons, ← filt_flat f g l]
    by_cases h : f x = true
    · rw [if_pos h, if_pos h]; rfl
    · rw [if_neg h, if_neg h]; rfl
theorem bad_hd {S : Shp} {f : Int} {ds : List Lis.Dsc} {side : Int} (hR : Room S.ps ds side) : badL side (bearN S.qs f S.qs.length) ds = hdL (fun q => brL S.st.l q f) side ds := by
  unfold hdL pick badL
  rw [flat_range, filt_flat]
  have key : ∀ i, i < ds.length → bad1 (ofD side (ds.getD i default)) (ds.getD i default).ser (bearN S.qs f S.qs.length) = if brD (fun q => brL S.st.l q f) side (ds.getD i default) = true then [(ds.getD i default).ser] else [] := fun i hi => by
    have hs := ofS_in (side := side) hR.dsok hi
    have hl : S.ps.length = S.qs.length := List.length_map ..
    rw [bad1_bear, ofD_ofS]
    have hq : (ofS (ds.getD i default) side).toNat < S.qs.length := by omega
    have e : brD (fun q => brL S.st.l q f) side (ds.getD i default) = ((S.qs.getD (ofS (ds.getD i default) side).toNat default).f f).isSome := by
      show (((S.qs.map fun q => (q.p, q.f)).getD (ofS (ds.getD i default) side).toNat default).2 f).isSome = _
      generalize (ofS (ds.getD i default) side).toNat = j at hq
      simp [List.getD, hq]
    rw [e]
    by_cases h : ((S.qs.getD (ofS (ds.getD i default) side).toNat default).f f).isSome = true
    · rw [if_pos h, if_pos ⟨hs.1, by omega, h⟩]
    · rw [if_neg h, if_neg (fun q => h q.2.2)]
  have : ∀ l : List Nat, (∀ i ∈ l, i < ds.length) → (l.flatMap fun i => bad1 (ofD side (ds.getD i default)) (ds.getD i default).ser (bearN S.qs f S.qs.length)) = l.flatMap fun i => if brD (fun q => brL S.st.l q f) side (ds.getD i default) = true then [(ds.getD i default).ser] else [] := by
    intro l
    induction l with
    | nil => intro _; rfl
    | cons x l ih => intro h; rw [List.flatMap_cons, List.flatMap_cons, key x (h x (List.mem_cons_self ..)), ih fun i hi => h i (List.mem_cons_of_mem _ hi)]
  exact this _ fun i hi => List.mem_range.1 hi
end Go.Proofs.YtncleikbggjmjaaGreatDoor.Plg
/- The discs that are pressed can be listened to, in plain Lean. -/
namespace Go.Proofs.YtncleikbggjmjaaGreatDoor.Plg
open Go.Sx Go.Proofs Go.RowKit
open Lis
section
variable {ps : List Lis.Plt} {pr : List (Int × Int)} {side : Int}
theorem manyD_le : manyD ps pr ≤ 16 := by unfold manyD; split <;> omega
theorem dscL_len : (dscL ps pr).length = manyD ps pr := dN_len ..
theorem pk_mem {s : List Int} (h : s ≠ []) (x : Int) : pk s x ∈ s := by
  have : 0 < s.length := List.length_pos_iff.2 h
  have h2 := Nat.mod_lt x.toNat this
  unfold pk
  rw [show s.getD (x.toNat % s.length) default = s[x.toNat % s.length] by simp [List.getD, h2]]
  exact List.getElem_mem h2
theorem dscL_at {i : Nat} (hi : i < (dscL ps pr).length) : (dscL ps pr).getD i default = mkD (stN ps ps.length) pr i ∧ stN ps ps.length ≠ [] := by
  rw [dscL_len] at hi
  constructor
  · unfold dscL dN
    simp [List.getD, hi]
  · intro e; unfold manyD at hi; rw [if_pos e] at hi; omega
theorem dscL_st {i : Nat} (hi : i < (dscL ps pr).length) : (∃ j : Nat, j < ps.length ∧ ((dscL ps pr).getD i default).a = (j : Int) + 1 ∧ (ps.getD j default).kind = 3) ∧ (∃ j : Nat, j < ps.length ∧ ((dscL ps pr).getD i default).b = (j : Int) + 1 ∧ (ps.getD j default).kind = 3) ∧ ((dscL ps pr).getD i default).ser = (i : Int) + 1 := by
  obtain ⟨h1, h2⟩ := dscL_at hi
  rw [h1]
  exact ⟨stN_mem (pk_mem h2 _), stN_mem (pk_mem h2 _), rfl⟩
theorem mem_at {α : Type} [Inhabited α] {l : List α} {x : α} (h : x ∈ l) : ∃ i, i < l.length ∧ l.getD i default = x := by
  obtain ⟨i, hi, rfl⟩ := List.getElem_of_mem h
  exact ⟨i, hi, by simp [List.getD, hi]⟩
theorem dscL_ok (hn : ps.length ≤ 256) : ∀ d ∈ dscL ps pr, DOk d := fun d hd => by
  obtain ⟨i, hi, rfl⟩ := mem_at hd
  obtain ⟨⟨j, h1, h2, _⟩, ⟨j', h3, h4, _⟩, _⟩ := dscL_st hi
  unfold DOk
  omega
theorem dscL_wf (hn : ps.length ≤ 256) : ∀ d ∈ dscL ps pr, Dsc.wf d := fun d hd => by
  obtain ⟨i, hi, rfl⟩ := mem_at hd
  have hm := manyD_le (ps := ps) (pr := pr)
  rw [← dscL_len] at hm
  obtain ⟨⟨j, h1, h2, _⟩, ⟨j', h3, h4, _⟩, h5⟩ := dscL_st hi
  unfold Dsc.wf I64
  omega
theorem ps_wf (h : PlOk ps) (hn : ps.length ≤ 256) : ∀ x ∈ ps, Plt.wf x := fun x hx => by
  obtain ⟨i, hi, rfl⟩ := mem_at hx
  have := Room.plate h hi
  unfold Plt.wf I64
  omega
theorem room_of (h : PlOk ps) (hn : ps.length ≤ 256) (hs : side = 0 ∨ side = 1) : Room ps (dscL ps pr) side := by
  refine ⟨hn, h, by have := manyD_le (ps := ps) (pr := pr); rw [dscL_len]; omega, fun i hi => ?_, hs⟩
  obtain ⟨⟨j, h1, h2, h6⟩, ⟨j', h3, h4, h7⟩, h5⟩ := dscL_st hi
  have hpv : prevS (dscL ps pr) i < ((dscL ps pr).getD i default).ser := by
    unfold prevS
    split
    · rw [h5]; omega
    · have := (dscL_st (ps := ps) (pr := pr) (i := i - 1) (by omega)).2.2
      rw [this, h5]; omega
  unfold dsOk stamp
  simp only [Bool.and_eq_true, decide_eq_true_eq, betw_iff]
  refine ⟨⟨hpv, ⟨by omega, by omega⟩, ?_⟩, ⟨by omega, by omega⟩, ?_⟩
  · rw [h2, show ((j : Int) + 1 - 1).toNat = j by omega]; exact h6
  · rw [h4, show ((j' : Int) + 1 - 1).toNat = j' by omega]; exact h7
end
end Go.Proofs.YtncleikbggjmjaaGreatDoor.Plg
/- The example of layer 7: a lacquer in a new shop, walked. -/
namespace Go.Proofs.YtncleikbggjmjaaGreatDoor.Plg
open Go.Sx Go.Proofs Go.RowKit
open Side (eN eN_len eN_one getD_memT sh_trans)
open Lis (Plt ePlt ePlt_len PlOk Dsc eDsc eDsc_len)
abbrev a7V : Value := .agg #[I 1, I 7, I 1000, I 0, I 0, I 0, I 0, I 0, I 0, I 0, I 0, I 0, I 0]
def a7 : Nat → Int
  | 0 => 1
  | 1 => 7
  | 2 => 1000
  | _ => 0
abbrev p7 : Plt := ⟨0, -1, 7, 1000, 0, 0, false⟩
section
variable {w w0 : World} {S : Shp} {G : Items} {b : Nat} {R : Nat → Int}
theorem C_valid7 : Con0 Tryz.prog 41 [a7V] w (.bool true) := by
  refine Ret_of (vs := [_]) hm none' Tryz.func41 rfl Tryz.ntmps41 rfl ?_
  dsimp only [slotsOf]
  refine Zp 2 [0] rfl ?_;refine Zx [_, _, _, _, _, _, _, _, _, _, _, _, _] rfl rfl fun b1 => ?_;refine Zv rfl ?_;refine Zz ?_;refine Zp 2 [] rfl ?_;refine Zg rfl fo_70_0 rfl ag_3 rfl ?_;refine GT_nil ?_;refine GE_block ?_;refine Zp 2 [] rfl ?_;refine GT_S rfl (V_eql rfl rfl rfl) ?_;refine Zv rfl ?_;refine GT_nil ?_;refine GE_cond_t rfl ?_;refine Zq [1] 9 [6, 7] rfl rfl ?_;refine Zg rfl fo_70_1 rfl ag_2 rfl ?_;refine GT_S rfl (V_build (vs := [_, _, _]) rfl rfl zc_158 pl_158 sa_158 rfl) ?_;refine Zg rfl fo_70_2 rfl ag_2 rfl ?_;refine GT_S rfl (V_build (vs := [_, _, _]) rfl rfl zc_158 pl_158 sa_158 rfl) ?_;refine GT_buildSlice (z := [_, _, _, _, _, _]) rfl rfl rfl rfl rfl Tryz.underlying212 zc_158 sz_158 (by decide) rfl rfl (fun _ => GR_nil) (fun b13 => ?_);refine Zc rfl rn_66 (fun w hw => C_allT (l := [(7, 0, 1099511627776), (1000, 1, 1048576)]) (RdL.own' hw eTri_len) (by decide) (Nat.le_of_ble_eq_true rfl)) GR_nil ?_;refine Zv rfl ?_;refine GT_nil ?_;refine GE_ret Tryz.func41 rfl (fun w hw => ⟨?_, hw.nil⟩)
  rfl
structure One (b : Nat) (R : Nat → Int) (S : Shp) : Prop where
  ok : S.Ok
  b : S.b = b
  R : S.R = R
  qs : ∃ q : PH, S.qs = [q] ∧ q.p = p7
set_option maxRecDepth 20000 in
theorem A_lacquer7 (m0 : SH w0 none' ((Shp.new b R).W G) w) (hR : RcOk R) :
    Ret Tryz.prog 42 [ptr b 0, a7V].toArray w fun v w' => ∃ S : Shp, (One b R S ∧ S.s4 = (none, 0, []) ∧ S.al = []) ∧ v = .tuple #[I 0, I 0] ∧ SH w0 none' (S.W G) w' := by
  have hS := Shp.Ok.new (b := b) hR
  have m1 : SH w0 none' ((b, blk (Shp.new b R).cells 75) :: G) w := m0
  refine Ret_ofH (vs := [_, _]) hm none' Tryz.func42 rfl Tryz.ntmps42 rfl m1 ?_
  dsimp only [slotsOf]
  refine Zp 3 [0] rfl ?_;refine Zx [_, _, _, _, _, _, _, _, _, _, _, _, _] rfl rfl fun b3 => ?_;refine Zr 2 rfl ?_;refine Zz ?_;refine Zp 6 [] rfl ?_;refine Zr 2 rfl ?_;refine Zg rfl fo_75_2 rfl ag_71 rfl ?_;refine Zn rfl Tryz.underlying71 ?_;refine GT_S rfl (V_isF (V_geq rfl rfl rfl) (show ¬ ((256 : Int) ≤ ((0 : Nat) : Int)) by decide)) ?_;refine GT_nil ?_;refine GE_cond_f rfl ?_;refine GE_skip ?_;refine Zq [0, 3] 7 [6] rfl rfl ?_;refine Zv rfl ?_;refine Zg rfl fo_70_1 rfl ag_2 rfl ?_;refine Zg rfl fo_70_2 rfl ag_2 rfl ?_;refine GT_S rfl (V_build (vs := [_, _, _, _, _, _, _]) rfl rfl zc_78 pl_78 sa_78 rfl) ?_;refine GT_callX rfl rfl rfl rfl rfl rfl rfl rfl rn_68 (fun w m9 => C_add (S := Shp.new b R) (p := p7) (G := (b3, _) :: G) (m9.hs (C := cx Tryz.prog hm 0 0 w0 none' fun _ _ => True) (show HS _ _ ((b, blk (Shp.new b R).cells 75) :: (b3, _) :: G) from HS.cons rfl (HS.cons rfl HS.last))) hS (show 0 < 256 by decide) ⟨by decide, by decide, by decide, by decide, by decide⟩) (fun _ _ => GR_nil) (fun y hy => ?_);refine GT_nil ?_;refine Zq [0] 8 [] rfl rfl ?_;refine Zr 2 rfl ?_;refine Zg rfl fo_75_2 rfl ag_71 rfl ?_;refine Zn rfl Tryz.underlying71 ?_;refine GT_S rfl (V_sub rfl rfl rfl ((show IntKind.i64.wrap (((1 : Nat) : Int) - 1) = 0 by decide))) ?_;refine Zr 2 rfl ?_;refine GT_nil ?_;refine GE_ret Tryz.func42 ⟨_, _, rfl, rfl, rfl⟩ (fun w hw => ?_)
  exact ⟨(Shp.new b R).snoc y.1 y.2, ⟨⟨hy.1, rfl, rfl, y.2, rfl, hy.2.1⟩, rfl, rfl⟩, rfl, hw.hs (C := cx Tryz.prog hm 0 0 w0 none' fun _ _ => True) (HS.cons rfl (HS.chunk (HS.chunk (HS.chunk (HS.chunk (HS.chunk HS.last))))))⟩
set_option maxRecDepth 20000 in
set_option maxHeartbeats 1000000 in
theorem C_Do7 (m0 : SH w0 none' ((Shp.new b R).W G) w) (hR : RcOk R) :
    Ret Tryz.prog 22 [ptr b 0, a7V].toArray w fun v w' => ∃ S : Shp, One b R S ∧ v = .tuple #[I 0, I 0] ∧ SH w0 none' (S.W G) w' := by
  have m1 : SH w0 none' ((b, blk (Shp.new b R).cells 75) :: G) w := m0
  refine Ret_ofH (vs := [_, _]) hm none' Tryz.func22 rfl Tryz.ntmps22 rfl m1 ?_
  dsimp only [slotsOf]
  refine Zp 3 [0] rfl ?_;refine Zx [_, _, _, _, _, _, _, _, _, _, _, _, _] rfl rfl fun b3 => ?_;refine Zr 2 rfl ?_;refine Zz ?_;refine GE_block ?_;refine Zp 3 [1] rfl ?_;refine Zv rfl ?_;refine Zc rfl rn_23 (fun w hw => C_bad (R := R) (BlkAt.of hw)) GR_nil ?_;refine Zv rfl ?_;refine GT_nil ?_;refine GE_cond_f rfl ?_;refine Zq [0, 3] 7 [] rfl rfl ?_;refine Zr 2 rfl ?_;refine Zg rfl fo_75_5 rfl ag_25 rfl ?_;refine Zn rfl Tryz.underlying25 ?_;refine GT_S rfl (V_isF (V_geq rfl rfl rfl) (show ¬ ((1000 : Int) ≤ ((0 : Nat) : Int)) by decide)) ?_;refine Zv rfl ?_;refine GT_nil ?_;refine GE_cond_f rfl ?_;refine Zq [0, 3] 4 [1] rfl rfl ?_;refine ZN [_, _, _, _, _, _, _, _, _, _, _, _, _] rfl ag_70 sz_70 rfl rfl ?_;refine Zc rfl rn_41 (fun w hw => C_valid7) GR_nil ?_;refine GT_S rfl (V_notB rfl rfl) ?_;refine Zv rfl ?_;refine GT_nil ?_;refine GE_cond_f rfl ?_;refine GE_skip ?_;refine GE_inBlock ?_;refine Zq [0, 3] 3 [1, 2] rfl rfl ?_;refine GT_S rfl (V_build (vs := [_, _, _, _, _, _, _]) rfl rfl zc_119 pl_119 sa_119 rfl) ?_;refine Zb rfl zc_119 fun b6 => ?_;refine ZS [_, _, _, _, _, _, _] [_, _, _, _, _, _, _] rfl rfl sz_119 rfl rfl rfl ?_;refine Zz ?_;refine GE_drawn (.st 0 (.st 1 (.st 2 (.st 3 (.st 4 (.st 5 (.ld 6 [] (.st 7 (.st 8 (.st 9 (.st 10 (.st 11 .nil)))))))))))) [6] (by decide +kernel) ?_;refine Zg rfl fo_70_0 rfl ag_3 rfl ?_;refine GT_S rfl (V_indexArr rfl rfl rfl Tryz.underlying119 sz_118 (kk := 1) rfl (by decide)) ?_;refine Zl rfl ag_118 rfl ?_;refine Zv rfl ?_;refine ZN [_, _, _, _, _, _, _, _, _, _, _, _, _] rfl ag_70 sz_70 rfl rfl ?_;refine GT_callX rfl rfl rfl rfl rfl rfl rfl rfl rn_42 (fun w m9 => A_lacquer7 (b := b) (R := R) (G := (b6, _) :: (b3, _) :: G) (m9.hs (C := cx Tryz.prog hm 0 0 w0 none' fun _ _ => True) (show HS _ _ ((b, blk (Shp.new b R).cells 75) :: (b6, _) :: (b3, _) :: G) from HS.cons rfl (HS.cons rfl (HS.cons rfl HS.last)))) hR) (fun _ _ => GR_nil) (fun y hy => ?_);obtain ⟨b', R', s1', s2', s3', s4', qs', ts', fl', al'⟩ := y;obtain ⟨⟨hyok, hyb, hyR, hyq⟩, hys4, hyal⟩ := hy;dsimp only at hyok hyb hyR hyq hyal hys4 ⊢;subst hyb hyR hyal hys4
  refine Zr 5 rfl ?_;refine Zz ?_;refine Zq [0, 3, 7, 8] 2 [] rfl rfl ?_;refine Zv rfl ?_;refine GT_S rfl (V_eql rfl rfl rfl) ?_;refine GT_nil ?_;refine GE_cond_t rfl ?_;refine GE_drawn (.st 0 (.st 1 (.st 2 (.st 3 (.st 4 (.st 5 (.ld 6 [0, 1, 2, 3, 4] (.ld 7 [0] (.st 8 (.st 9 (.ld 10 [] .nil))))))))))) [6, 7, 10] (by decide +kernel) ?_;refine Zr 3 rfl ?_;refine Zg rfl fo_75_5 rfl ag_25 rfl ?_;refine ZN [_, _, _, _, _, _, _, _, _, _, _, _, _] rfl ag_70 sz_70 rfl rfl ?_;refine GT_buildSlice (z := [_, _, _, _, _, _, _, _, _, _, _, _, _]) rfl rfl rfl rfl rfl Tryz.underlying25 zc_70 sz_70 (by decide) rfl rfl (fun _ => Rv rfl rfl (Rv rfl rfl (Rv rfl rfl (Rf rfl fo_75_5 rfl (Rl rfl ag_25 rfl rfl GR_nil))))) (fun b42 => ?_);refine GT_append (enc := eAct) (l := []) (m := [a7]) rfl rfl rfl rfl rfl rfl rfl (Own.nil (e := 70)) (fun w m => RdL.own' m eAct_len) Tryz.underlying25 zc_70 sz_70 ⟨rfl, by decide⟩ by_70 ⟨by decide, by decide⟩ eAct_len eAct_one (fun _ _ _ _ => Rv rfl rfl GR_nil) (fun A3 c3 I3 hO3 => ?_);refine Zv rfl ?_;refine Zf rfl fo_75_5 ?_;refine ZS [_] [_, _, _, _, _, _, _, _, _, _, _, _, _, _, _, _, _, _] rfl rfl sz_25 rfl rfl rfl ?_;refine GT_nil ?_;refine Zq [7, 8] 4 [] rfl rfl ?_;refine Zr 4 rfl ?_;refine GT_nil ?_;refine GE_ret Tryz.func22 ⟨_, _, rfl, rfl, rfl⟩ (fun w hw => ?_)
  exact ⟨⟨b', R', s1', s2', s3', (A3, c3, I3), qs', ts', fl', [a7]⟩, ⟨⟨hyok.r1, hyok.r2, hyok.o1, hyok.o2, hyok.o3, hO3, hyok.n1, hyok.n2, hyok.n3, (show 1 ≤ 1000 by decide), hyok.ps⟩, rfl, rfl, hyq⟩, rfl, hw.hs (C := cx Tryz.prog hm 0 0 w0 none' fun _ _ => True) (HS.cons rfl (HS.chunk (HS.chunk (HS.chunk (HS.chunk (HS.chunk HS.last))))))⟩
end
end Go.Proofs.YtncleikbggjmjaaGreatDoor.Plg
/- The example of layer 7: the growths that are needed, walked. -/
namespace Go.Proofs.YtncleikbggjmjaaGreatDoor.Plg
open Go.Sx Go.Proofs Go.RowKit
open Side (eN eN_len eN_one getD_memT sh_trans)
open Lis (Plt ePlt ePlt_len PlOk Dsc eDsc eDsc_len)
section
variable {w w0 : World} {S : Shp} {G : Items} {b : Nat} {R : Nat → Int}
theorem C_lack1 : Con0 Tryz.prog 62 [I 4, I 0, I 3] w (I 2) := by
  refine Ret_of (vs := [_, _, _]) hm none' Tryz.func62 rfl Tryz.ntmps62 rfl ?_
  dsimp only [slotsOf]
  refine Zp 1 [] rfl ?_;refine Zv rfl ?_;refine Zz ?_;refine Zp 3 [] rfl ?_;refine Zr 2 rfl ?_;refine GT_S rfl (V_leq rfl rfl rfl) ?_;refine GT_nil ?_;refine GE_cond_f rfl ?_;refine GE_skip ?_;refine Zq [0, 1, 2] 9 [] rfl rfl ?_;refine Zr 2 rfl ?_;refine GT_S rfl (V_sub rfl rfl rfl (rfl)) ?_;refine Zv rfl ?_;refine GT_S rfl (V_add rfl rfl rfl (rfl)) ?_;refine GT_S rfl (V_sub rfl rfl rfl (rfl)) ?_;refine Zv rfl ?_;refine GT_S rfl (V_quo rfl rfl rfl (by omega) (rfl)) ?_;refine Zv rfl ?_;refine GT_nil ?_;refine GE_ret Tryz.func62 rfl (fun w hw => ⟨?_, hw.nil⟩)
  exact congrArg (Value.int .i64) (by decide)
theorem C_lack2 : Con0 Tryz.prog 62 [I 2, I 0, I 2] w (I 1) := by
  refine Ret_of (vs := [_, _, _]) hm none' Tryz.func62 rfl Tryz.ntmps62 rfl ?_
  dsimp only [slotsOf]
  refine Zp 1 [] rfl ?_;refine Zv rfl ?_;refine Zz ?_;refine Zp 3 [] rfl ?_;refine Zr 2 rfl ?_;refine GT_S rfl (V_leq rfl rfl rfl) ?_;refine GT_nil ?_;refine GE_cond_f rfl ?_;refine GE_skip ?_;refine Zq [0, 1, 2] 9 [] rfl rfl ?_;refine Zr 2 rfl ?_;refine GT_S rfl (V_sub rfl rfl rfl (rfl)) ?_;refine Zv rfl ?_;refine GT_S rfl (V_add rfl rfl rfl (rfl)) ?_;refine GT_S rfl (V_sub rfl rfl rfl (rfl)) ?_;refine Zv rfl ?_;refine GT_S rfl (V_quo rfl rfl rfl (by omega) (rfl)) ?_;refine Zv rfl ?_;refine GT_nil ?_;refine GE_ret Tryz.func62 rfl (fun w hw => ⟨?_, hw.nil⟩)
  exact congrArg (Value.int .i64) (by decide)
set_option maxRecDepth 20000 in
set_option maxHeartbeats 1000000 in
theorem C_Needs7 (h : ShAt w S) (hS : S.Ok) {q : PH} (hq : S.qs = [q]) (hqp : q.p = p7) (h11 : S.R 11 = 2) (h12 : S.R 12 = 3) : Con0 Tryz.prog 38 [ptr S.b 0, I 0, I 4] w (.tuple #[I 7, I 0]) := by
  have hl1 : S.qs.length = 1 := by rw [hq]; rfl
  have hgd : S.qs.getD 0 default = q := by rw [hq]; rfl
  have hg := h.pl 0 (by omega)
  rw [show (S.qs.getD 0 default).p = p7 by rw [hgd, hqp]] at hg
  have hr1 : (if p7.ret = true then (0 : Int) else max 0 (cap S.R p7.kind.toNat - p7.grown)) = 1 := by show max (0 : Int) (1 - 0) = 1; decide
  have hps : S.ps = [p7] := by show S.qs.map (·.p) = _; rw [hq, List.map_singleton, hqp]
  have hpo : PlOk S.ps := by rw [hps]; decide
  have hup : upF S.ps S.qs.length 0 = [0] := by rw [hps, hl1]; decide
  refine Ret_of (vs := [_, _, _]) hm none' Tryz.func38 rfl Tryz.ntmps38 rfl ?_
  dsimp only [slotsOf]
  refine Zp 5 [0, 1, 2] rfl ?_;refine Zx [_] rfl rfl fun b3 => ?_;refine Zx [_] rfl rfl fun b4 => ?_;refine Zx [_] rfl rfl fun b5 => ?_;refine Zr 2 rfl ?_;refine Zz ?_;refine GE_block ?_;refine Zp 3 [1] rfl ?_;refine Zl rfl ag_30 rfl ?_;refine Zc rfl rn_23 (fun w hw => C_bad (h.sh hw).blk) GR_nil ?_;refine Zv rfl ?_;refine GT_nil ?_;refine GE_cond_f rfl ?_;refine Zq [3, 4, 5, 6, 7] 5 [2] rfl rfl ?_;refine Zl rfl ag_30 rfl ?_;refine Zl rfl ag_3 rfl ?_;refine Zc rfl rn_29 (fun w hw => C_getK (h.sh hw) (k := 0) (by omega) rfl) GR_nil ?_;refine GT_S rfl (V_eqlNilPtr rfl rfl rfl Tryz.underlying76) ?_;refine Zv rfl ?_;refine GT_nil ?_;refine GE_cond_f rfl ?_;refine Zq [3, 4, 5, 6, 7] 7 [] rfl rfl ?_;refine Zl rfl ag_3 rfl ?_;refine GT_S rfl (V_isF (V_lss rfl rfl rfl) (by decide)) ?_;refine Zv rfl ?_;refine Zl rfl ag_3 rfl ?_;refine GT_S rfl (V_isF (V_gtr rfl rfl rfl) (by decide)) ?_;refine Zr 2 rfl ?_;refine GT_nil ?_;refine GE_cond_f rfl ?_;refine GE_skip ?_;refine GE_inBlock ?_;refine Zq [3, 4, 5, 6, 7] 1 [0] rfl rfl ?_;refine Zb rfl zc_146 fun b8 => ?_;refine Zz ?_;refine Zp 6 [] rfl ?_;refine Zl rfl ag_30 rfl ?_;refine Zv rfl ?_;refine Zf rfl fo_75_2 ?_;refine ZL rfl ag_71 (CellAt.old (h.blk.cell rfl) (fun q => q)) ?_;refine Zn rfl Tryz.underlying71 ?_;refine Zv rfl ?_;refine GT_nil ?_;refine GE_block ?_;refine GE_to (GE_loopD (ι := Nat × List Nat) (fun z => 1 - z.1) (fun z => [(3, ptr b3 0), (4, ptr b4 0), (5, ptr b5 0), (8, ptr b8 0), (33, .slice S.s1.1 S.qs.length S.s1.2.1), (34, I S.qs.length), (35, I z.1)]) (fun z => dq z.2) (fun z => (b3, blk [ptr S.b 0] 30) :: (b4, blk [I 0] 3) :: (b5, blk [I 4] 3) :: (b8, blk [I z.1, I 0, I 0, I 0] 146) :: iq z.2) (fun z => z.1 ≤ 1) ?_ (0, []) ?_) ⟨rfl, rfl, rfl, rfl, rfl, rfl, rfl, trivial⟩ (HS.cons rfl (HS.cons rfl (HS.cons rfl (HS.cons rfl HS.nil))))
  · rintro ⟨z, qs⟩ hz ih; dsimp only at hz ih ⊢
    refine Zp 1 [] rfl ?_;refine GT_S rfl (V_lss rfl rfl rfl) ?_;refine Zz ?_;refine GE_cond rfl (fun q1 => ?_) (fun q1 => ?_)
    · obtain rfl : z = 0 := (by omega)
      refine GE_skip ?_;refine GE_seq ?_;refine GE_block ?_;refine Zp 6 [3, 5] rfl ?_;refine Zv rfl ?_;refine GT_S rfl (V_index rfl rfl rfl Tryz.underlying71 sz_76 (k := 0) rfl (by omega) (h.r1.isSome (k := 0) (by rw [gs_len]; omega))) ?_;refine ZL rfl ag_76 (h.ptrAt noM (by omega)) ?_;refine Zb rfl zc_76 fun b10 => ?_;refine Zv rfl ?_;refine ZS [_] [_] rfl rfl sz_76 rfl rfl rfl ?_;refine GT_nil ?_;refine Zq [3, 4, 5, 8, 9, 10, 33, 34, 35] 3 [2] rfl rfl ?_;refine Zl rfl ag_30 rfl ?_;refine Zv rfl ?_;refine ZC rfl rn_53 (fun w hw => C_up (S := S) (i := 0)) (fun _ _ => GR_nil) (fun bb _ => ?_);refine GT_nil ?_;refine GE_block ?_;refine GE_range rfl rfl rn_79 (fun T l7 q' r0 hr0 hT hlk w hw => ?_);refine (C_up1 (i := 0) (lp := l7) (b3 := bb.1) (b2 := bb.2) (J := (l7, .loop r0) :: (b10, blk [ptr (S.qs.getD 0 default).g 0] 76) :: (b3, blk [ptr S.b 0] 30) :: (b4, blk [I 0] 3) :: (b5, blk [I 4] 3) :: (b8, blk [I 0, I 0, I 0, I 0] 146) :: []) (G := (q', .deferred (some [])) :: iq qs)
        (Q := fun pre J' => J' = (l7, .loop r0) :: (b10, blk [ptr (S.qs.getD 0 default).g 0] 76) :: (b3, blk [ptr S.b 0] 30) :: (b4, blk [I 0] 3) :: (b5, blk [I 4] 3) :: (b8, blk [I pre.length, I 0, I 0, I 0] 146) :: [])
        h hpo ⟨by omega, by omega⟩ ?_ rfl (hw.hs (C := cx Tryz.prog hm 0 0 _ none' fun _ _ => True) (HS.cons rfl (HS.cons rfl (HS.cons rfl (HS.cons rfl (HS.cons rfl (HS.cons rfl (HS.cons rfl (HS.cons rfl (HS.cons rfl HS.last))))))))))).mono (fun v w' ⟨J', hJ', hw'⟩ => ?_)
      · rintro pre k J2 hk hpre hJ G2; subst hJ; subst hr0
        obtain rfl : k = 0 := (by omega)
        refine yield_of inferInstance rfl rfl hT hlk rfl rfl hm ?_;refine GE_slots (L' := [(3, ptr b3 0), (4, ptr b4 0), (5, ptr b5 0), (8, ptr b8 0), (10, ptr b10 0), (43, I 0)]) ⟨rfl, rfl, rfl, rfl, rfl, rfl, trivial⟩ ?_;refine ZP 1 [] rfl ?_;refine Zv rfl ?_;refine GT_nil ?_;refine GE_beginRound rfl ?_;refine GE_block ?_;refine Zp 3 [] rfl ?_;refine Zv rfl ?_;refine Zl rfl ag_3 rfl ?_;refine GT_S rfl (V_isT (V_eql rfl rfl rfl) rfl) ?_;refine GT_nil ?_;refine GE_cond_t rfl ?_;refine GE_seq ?_;refine Zs [3, 5, 8, 10] rfl ?_;refine GE_drawn (.st 0 (.st 1 (.st 2 (.st 3 (.st 4 (.st 5 (.st 6 (.st 7 (.st 8 (.ld 9 [0, 1, 2, 3, 4, 5, 6] (.st 10 (.st 11 (.ld 12 [] .nil))))))))))))) [9, 12] (by decide +kernel) ?_;refine Zl rfl ag_76 rfl ?_;refine Zv rfl ?_;refine Zf rfl fo_81_0 ?_;refine Zf rfl fo_78_0 ?_;refine ZL rfl ag_3 (CellAt.old (hg.cell rfl) (fun q => q)) ?_;refine GT_S rfl (V_indexArr rfl rfl rfl Tryz.underlying146 sz_3 (kk := 0) rfl (by decide)) ?_;refine Zl rfl ag_3 rfl ?_;refine Zl rfl ag_30 rfl ?_;refine Zl rfl ag_76 rfl ?_;refine Zc rfl rn_61 (fun w hw => C_room (p := p7) (h.sh hw).blk (hg.sh hw) ⟨by decide, by decide, by decide, by decide, by decide⟩ hS.r1 hS.r2) (Rl rfl ag_76 rfl rfl (Rv rfl rfl (Rf rfl fo_81_0 rfl (Rf rfl fo_78_0 rfl (GR_S rfl rfl (V_load rfl rfl ag_3 (CellAt.old (hg.cell rfl) (fun q => q))) (GR_S rfl rfl (V_indexArr rfl rfl rfl Tryz.underlying146 sz_3 (kk := 0) rfl (by decide)) (Rl rfl ag_3 rfl rfl GR_nil))))))) ?_;refine GT_S rfl (V_add rfl rfl rfl ((show IntKind.i64.wrap ((pre.length : Int) + (if p7.ret = true then (0 : Int) else max 0 (cap S.R p7.kind.toNat - p7.grown))) = ((pre ++ [((0 : Nat) : Int)]).length : Int) by rw [hr1, List.length_append, List.length_singleton]; exact (wrap_i64 (by omega)).trans (by omega)))) ?_;refine GT_S rfl (V_indexArr rfl rfl rfl Tryz.underlying146 sz_3 (kk := 0) rfl (by decide)) ?_;refine ZS [_] [_, _, _, _] rfl rfl sz_3 rfl rfl rfl ?_;refine GT_nil ?_;refine Zq [5, 10] 14 [] rfl rfl ?_;refine Zl rfl ag_76 rfl ?_;refine Zv rfl ?_;refine Zf rfl fo_81_0 ?_;refine Zf rfl fo_78_0 ?_;refine ZL rfl ag_3 (CellAt.old (hg.cell rfl) (fun q => q)) ?_;refine GT_S rfl (V_isF (V_eql rfl rfl rfl) (by decide)) ?_;refine Zr 8 rfl ?_;refine GT_nil ?_;refine GE_cond_f rfl ?_;refine GE_skip ?_;refine GE_inBlock ?_;refine GE_leave none rfl (fun w hw => ⟨_, ⟨_, rfl, rfl, rfl⟩, ?_⟩)
        exact hw.hs (HS.cons rfl (HS.cons rfl (HS.cons rfl (HS.cons rfl (HS.cons rfl (HS.cons rfl HS.last))))))
      · subst hJ'; subst hr0; rw [hup] at hw'
        refine ⟨_, (b10, blk [ptr (S.qs.getD 0 default).g 0] 76) :: (b3, blk [ptr S.b 0] 30) :: (b4, blk [I 0] 3) :: (b5, blk [I 4] 3) :: (b8, blk [I 1, I 0, I 0, I 0] 146) :: iq qs, ?_, hw'.hs (C := cx Tryz.prog hm 0 0 _ none' fun _ _ => True) (HS.cons rfl (HS.cons rfl (HS.cons rfl (HS.cons rfl (HS.cons rfl (HS.cons rfl (HS.cons rfl HS.last))))))), ?_⟩
        · intro h; cases h
        refine GE_D (D' := dq (q' :: qs)) ?_ rfl
        refine GE_inBlock ?_;refine GE_inBlock ?_;refine Zs [3, 4, 5, 8, 33, 34, 35] rfl ?_;refine ZP 2 [1] rfl ?_;refine Za rfl (by omega) ?_;refine Zw rfl ?_;refine GT_nil ?_
        exact GE_to (ih (1, q' :: qs) (Nat.le_refl _) (by dsimp only; omega)) ⟨rfl, rfl, rfl, rfl, rfl, rfl, rfl, trivial⟩ (HS.cons rfl (HS.cons rfl (HS.cons rfl (HS.cons rfl HS.last))))
    · obtain rfl : z = 1 := (by omega)
      refine GE_exit rfl ?_;refine Zq [3, 5, 8] 3 [] rfl rfl ?_;refine Zl rfl ag_3 rfl ?_;refine GT_S rfl (V_eqv (V_max rfl rfl rfl) (congrArg (Value.int .i64) (show max (0 : Int) 4 = 4 by decide))) ?_;refine Zv rfl ?_;refine Zz ?_;refine GE_drawn (.st 0 (.st 1 (.st 2 (.st 3 (.st 4 (.st 5 (.st 6 (.st 7 (.ld 8 [] (.st 9 .nil)))))))))) [8] (by decide +kernel) ?_;refine Zv rfl ?_;refine GT_S rfl (V_indexArr (kk := 2) rfl rfl rfl Tryz.underlying146 sz_3 rfl (by omega)) ?_;refine Zl rfl ag_3 rfl ?_;refine Zl rfl ag_30 rfl ?_;refine Zv rfl ?_;refine Zf rfl fo_75_1 ?_;refine Zf rfl fo_24_6 ?_;refine ZL rfl ag_3 (CellAt.old (h.blk.cell rfl) (fun q => q)) ?_;refine Zc rfl rn_62 (fun w hw => by rw [h12]; exact C_lack1) GR_nil ?_;refine Zv rfl ?_;refine Zz ?_;refine Zs [3, 8, 12, 13] rfl ?_;refine GE_drawn (.st 0 (.st 1 (.st 2 (.st 3 (.st 4 (.st 5 (.st 6 (.st 7 (.ld 8 [] (.st 9 .nil)))))))))) [8] (by decide +kernel) ?_;refine Zv rfl ?_;refine GT_S rfl (V_indexArr (kk := 1) rfl rfl rfl Tryz.underlying146 sz_3 rfl (by omega)) ?_;refine Zl rfl ag_3 rfl ?_;refine Zl rfl ag_30 rfl ?_;refine Zv rfl ?_;refine Zf rfl fo_75_1 ?_;refine Zf rfl fo_24_5 ?_;refine ZL rfl ag_3 (CellAt.old (h.blk.cell rfl) (fun q => q)) ?_;refine Zc rfl rn_62 (fun w hw => by rw [h11]; exact C_lack2) GR_nil ?_;refine Zv rfl ?_;refine Zz ?_;refine Zq [8, 12, 13, 14] 4 [] rfl rfl ?_;refine Zv rfl ?_;refine GT_S rfl (V_indexArr (kk := 0) rfl rfl rfl Tryz.underlying146 sz_3 rfl (by omega)) ?_;refine Zl rfl ag_3 rfl ?_;refine GT_S rfl (V_isF (V_gtr rfl rfl rfl) (by decide)) ?_;refine GT_nil ?_;refine GE_cond_f rfl ?_;refine GE_skip ?_;refine Zq [12, 13, 14] 7 [] rfl rfl ?_;refine Zr 2 rfl ?_;refine Za rfl (by omega) ?_;refine Zv rfl ?_;refine Za rfl (by omega) ?_;refine Zr 2 rfl ?_;refine GT_nil ?_;refine GE_retq Tryz.func38 ⟨_, _, rfl, rfl, rfl⟩ (fun w hw => ⟨?_, hw.nil⟩)
      rfl
  · exact Nat.zero_le _
end
end Go.Proofs.YtncleikbggjmjaaGreatDoor.Plg
/- The least radius of the example's groove: the search, walked. -/
namespace Go.Proofs.YtncleikbggjmjaaGreatDoor.Side
open Go.Sx Go.Proofs Go.RowKit
section
variable {w w0 : World} {c g bt b8 b3 b5 b p3 p5 : Nat} {r r0 i : Int} {G : Items}
abbrev tB (bt : Nat) (g c : Nat) (r : Int) : Nat × Obj := (bt, blk (trkC (some ⟨g, 0, none⟩) c r 1000) 277)
abbrev fL (b8 : Nat) : Value := .func (.func 116) #[] #[ptr b8 0]
abbrev fl (b3 b5 : Nat) : Value := .func (.func 131) #[] #[ptr b3 0, ptr b5 0]
abbrev ff (b : Nat) : Value := .func (.func 146) #[] #[ptr b 0]
theorem C_Least1 (m : SH w0 none' (tB bt g c r :: (b8, blk [ptr bt 0] 250) :: G) w) (hP : RdL w0 2 eP2 (some ⟨g, 0, none⟩) ptE) (hr : 0 ≤ r ∧ r ≤ 4194304) :
    Ret Tryz.prog 116 [ptr b8 0].toArray w fun v w' => ∃ _ : Unit, True ∧ v = .bool (decide (31831 ≤ r)) ∧ SH w0 none' (tB bt g c r :: (b8, blk [ptr bt 0] 250) :: G) w' := by
  refine Ret_ofH (vs := [_]) hm none' Tryz.func116 rfl Tryz.ntmps116 rfl m ?_
  dsimp only [slotsOf]
  refine Zp 1 [] rfl ?_;refine Zv rfl ?_;refine GT_nil ?_;refine Zp 7 [1] rfl ?_;refine Zl rfl ag_250 rfl ?_;refine Zc rfl rn_117 (fun w hw => C_fault (BlkAt.of hw) (hP.sh hw) hr) GR_nil ?_;refine Zr 5 rfl ?_;refine GT_nil ?_;refine Zq [3] 3 [] rfl rfl ?_;refine Zv rfl ?_;refine GT_S rfl (V_eql rfl rfl rfl) ?_;refine Zv rfl ?_;refine GT_nil ?_;refine GE_ret Tryz.func116 rfl (fun w hw => ?_);refine ⟨(), trivial, ?_, hw.hs (C := cx Tryz.prog hm 0 0 w0 none' fun _ _ => True) (HS.cons rfl (HS.cons rfl (HS.last (I := G))))⟩;by_cases e : r ≤ 31830 <;> simp [e] <;> omega
abbrev lH (bt b8 b3 b5 g c : Nat) (r : Int) (G : Items) : Items := tB bt g c r :: (b8, blk [ptr bt 0] 250) :: (b3, blk [ptr bt 0] 250) :: (b5, blk [fL b8] 29) :: G
theorem C_least1 (m : SH w0 none' (lH bt b8 b3 b5 g c r0 G) w) (hP : RdL w0 2 eP2 (some ⟨g, 0, none⟩) ptE) (hr : 0 ≤ r ∧ r ≤ 4194304) :
    Ret Tryz.prog 131 [I r, ptr b3 0, ptr b5 0].toArray w fun v w' => ∃ _ : Unit, True ∧ v = .bool (decide (31831 ≤ r)) ∧ SH w0 none' (lH bt b8 b3 b5 g c r G) w' := by
  refine Ret_ofH (vs := [_, _, _]) hm none' Tryz.func131 rfl Tryz.ntmps131 rfl m ?_
  dsimp only [slotsOf]
  refine Zp 1 [] rfl ?_;refine Zv rfl ?_;refine GT_nil ?_;refine Zp 5 [4] rfl ?_;refine Zl rfl ag_250 rfl ?_;refine Zr 2 rfl ?_;refine Zf rfl fo_277_2 ?_;refine ZS [_] _ rfl rfl sz_2 rfl rfl rfl ?_;refine GT_nil ?_;refine Zq [2] 3 [1] rfl rfl ?_;refine Zl rfl ag_29 rfl ?_;refine GT_callX rfl rfl rfl rfl rfl rfl rfl rfl rn_116 (fun w m => C_Least1 (bt := bt) (b8 := b8) (c := c) (r := r) (G := (b3, blk [ptr bt 0] 250) :: (b5, blk [fL b8] 29) :: G) (by exact m.hs (HS.cons rfl (HS.cons rfl (HS.cons rfl (HS.cons rfl (HS.last (I := G))))))) hP hr) (fun _ _ => GR_nil) (fun _ _ => ?_);refine Zv rfl ?_;refine GT_nil ?_;refine GE_ret Tryz.func131 rfl (fun w hw => ?_)
  exact ⟨(), trivial, rfl, hw.hs (C := cx Tryz.prog hm 0 0 w0 none' fun _ _ => True) (HS.cons rfl (HS.cons rfl (HS.cons rfl (HS.cons rfl (HS.last (I := G))))))⟩
abbrev fH (bt b8 b3 b5 b g c : Nat) (r : Int) (G : Items) : Items := (b, blk [fl b3 b5] 171) :: lH bt b8 b3 b5 g c r G
theorem C_first1 (m : SH w0 none' (fH bt b8 b3 b5 b g c r0 G) w) (hP : RdL w0 2 eP2 (some ⟨g, 0, none⟩) ptE) (hr : 0 ≤ r ∧ r ≤ 4194304) :
    Ret Tryz.prog 146 [I r, ptr b 0].toArray w fun v w' => ∃ _ : Unit, True ∧ v = .bool (decide (31831 ≤ r)) ∧ SH w0 none' (fH bt b8 b3 b5 b g c r G) w' := by
  refine Ret_ofH (vs := [_, _]) hm none' Tryz.func146 rfl Tryz.ntmps146 rfl m ?_
  dsimp only [slotsOf]
  refine Zp 1 [] rfl ?_;refine Zv rfl ?_;refine GT_nil ?_;refine Zp 4 [2] rfl ?_;refine Zl rfl ag_171 rfl ?_;refine Zv rfl ?_;refine GT_callX rfl rfl rfl rfl rfl rfl rfl rfl rn_131 (fun w m => C_least1 (bt := bt) (b8 := b8) (c := c) (r0 := r0) (r := r) (G := (b, blk [fl b3 b5] 171) :: G) (by exact m.hs (HS.cons rfl (HS.cons rfl (HS.cons rfl (HS.cons rfl (HS.cons rfl (HS.last (I := G)))))))) hP hr) (fun _ _ => GR_nil) (fun _ _ => ?_);refine Zv rfl ?_;refine GT_nil ?_;refine GE_ret Tryz.func146 rfl (fun w hw => ?_)
  exact ⟨(), trivial, rfl, hw.hs (C := cx Tryz.prog hm 0 0 w0 none' fun _ _ => True) (HS.cons rfl (HS.cons rfl (HS.cons rfl (HS.cons rfl (HS.cons rfl (HS.last (I := G)))))))⟩
theorem C_Search (m : SH w0 none' (fH bt b8 b3 b5 b g c 0 G) w) (hP : RdL w0 2 eP2 (some ⟨g, 0, none⟩) ptE) :
    Ret Tryz.prog 145 [I 4194305, ff b].toArray w fun v w' => ∃ r : Int, True ∧ v = I 31831 ∧ SH w0 none' (fH bt b8 b3 b5 b g c r G) w' := by
  refine Ret_ofH (vs := [_, _]) hm none' Tryz.func145 rfl Tryz.ntmps145 rfl m ?_
  dsimp only [slotsOf]
  refine Zp 1 [] rfl ?_;refine Zv rfl ?_;refine GT_nil ?_;refine Zp 3 [] rfl ?_;refine Zr 3 rfl ?_;refine Zz ?_;refine GE_block ?_;refine GE_to (GE_loop (ι := Int × Int × Int) (fun z => (z.2.1 - z.1).toNat) (fun z => [(1, ff b), (5, I z.1), (6, I z.2.1)]) (fun z => fH bt b8 b3 b5 b g c z.2.2 G) (fun z => 0 ≤ z.1 ∧ z.1 ≤ 31831 ∧ 31831 ≤ z.2.1 ∧ z.2.1 ≤ 4194305) ?_ (0, 4194305, 0) ?_) ⟨rfl, rfl, rfl, trivial⟩ (HS.all)
  · rintro ⟨i, j, r⟩ hk ih; dsimp only at hk ih ⊢; obtain ⟨h1, h2, h3, h4⟩ := hk
    refine GE_seq ?_;refine Zp 3 [] rfl ?_;refine Zr 2 rfl ?_;refine GT_S rfl (V_lss rfl rfl rfl) ?_;refine GT_nil ?_;refine GE_cond rfl (fun q1 => ?_) (fun q1 => ?_)
    · refine GE_skip ?_;refine GE_block ?_;refine Zp 7 [] rfl ?_;refine Zr 2 rfl ?_;refine Za rfl (by omega) ?_;refine GT_S rfl (V_convII rfl rfl (by rw [Tryz.underlying3]; rfl) Tryz.underlying169 (wrap_u64 (by omega))) ?_;refine GT_S rfl (V_shr (s := 1) (d := 2) rfl rfl rfl (by decide) (by decide)) ?_;refine GT_S rfl (V_convII rfl rfl (by rw [Tryz.underlying169]; rfl) Tryz.underlying3 (wrap_i64 (by omega))) ?_;refine Zv rfl ?_;refine GT_nil ?_;refine Zq [1, 5, 6, 7] 4 [2] rfl rfl ?_;refine Zr 2 rfl ?_;refine GT_callX rfl rfl rfl rfl rfl rfl rfl rfl rn_146 (fun w m => C_first1 (r := (i + j) / 2) (r0 := r) (G := G) m hP ⟨by omega, by omega⟩) (fun _ _ => GR_nil) (fun _ _ => ?_);refine GT_S rfl (V_not rfl rfl) ?_;refine GT_nil ?_;refine GE_condNot rfl (fun q2 => ?_) (fun q2 => ?_)
      · refine Zs [1, 6, 7] rfl ?_;refine ZP 3 [] rfl ?_;refine Zv rfl ?_;refine Za rfl (by omega) ?_;refine Zv rfl ?_;refine GT_nil ?_;refine GE_inBlock ?_
        first | exact GE_to (ih ((i + j) / 2 + 1, j, (i + j) / 2) ⟨by dsimp only; omega, by dsimp only; omega, by dsimp only; omega, by dsimp only; omega⟩ (by dsimp only; omega)) ⟨rfl, rfl, rfl, trivial⟩ HS.all | exact GE_to (ih (i, (i + j) / 2, (i + j) / 2) ⟨by dsimp only; omega, by dsimp only; omega, by dsimp only; omega, by dsimp only; omega⟩ (by dsimp only; omega)) ⟨rfl, rfl, rfl, trivial⟩ HS.all
      · have q2 : 31831 ≤ (i + j) / 2 := (by omega)
        refine Zs [1, 5, 7] rfl ?_;refine ZP 2 [] rfl ?_;refine Zr 2 rfl ?_;refine GT_nil ?_;refine GE_inBlock ?_
        first | exact GE_to (ih ((i + j) / 2 + 1, j, (i + j) / 2) ⟨by dsimp only; omega, by dsimp only; omega, by dsimp only; omega, by dsimp only; omega⟩ (by dsimp only; omega)) ⟨rfl, rfl, rfl, trivial⟩ HS.all | exact GE_to (ih (i, (i + j) / 2, (i + j) / 2) ⟨by dsimp only; omega, by dsimp only; omega, by dsimp only; omega, by dsimp only; omega⟩ (by dsimp only; omega)) ⟨rfl, rfl, rfl, trivial⟩ HS.all
    · have hij : i = 31831 := (by omega)
      refine GE_exit rfl ?_;refine Zq [5] 2 [] rfl rfl ?_;refine Zr 2 rfl ?_;refine GT_nil ?_;refine GE_ret Tryz.func145 rfl (fun w hw => ?_)
      subst hij; exact ⟨r, trivial, rfl, hw.hs (C := cx Tryz.prog hm 0 0 w0 none' fun _ _ => True) HS.all⟩
  · exact ⟨by decide, by decide, by decide, by decide⟩
theorem C_gfirst (m : SH w0 none' (lH bt b8 p3 p5 g c 0 G) w) (hP : RdL w0 2 eP2 (some ⟨g, 0, none⟩) ptE) :
    Ret Tryz.prog 130 [I 4194304, fl p3 p5].toArray w fun v w' => ∃ _ : Unit, True ∧ v = I 31831 ∧ SH w0 none' G w' := by
  refine Ret_ofH (vs := [_, _]) hm none' Tryz.func130 rfl Tryz.ntmps130 rfl m ?_
  dsimp only [slotsOf]
  refine Zp 2 [0] rfl ?_;refine Zx [_] rfl rfl fun b3 => ?_;refine Zv rfl ?_;refine GT_nil ?_;refine Zp 5 [3] rfl ?_;refine Zv rfl ?_;refine GT_S rfl (V_add rfl rfl rfl ((show IntKind.i64.wrap (4194304 + 1) = 4194305 from by decide))) ?_;refine GT_S rfl (V_makeFunc rfl rfl rfl) ?_;refine GT_callX rfl rfl rfl rfl rfl rfl rfl rfl rn_145 (fun w m => C_Search (bt := bt) (b8 := b8) (b3 := p3) (b5 := p5) (b := b3) (c := c) (g := g) (G := G) (by exact m) hP) (fun _ _ => GR_nil) (fun _ _ => ?_);refine Zv rfl ?_;refine GT_nil ?_;refine GE_ret Tryz.func130 rfl (fun w hw => ?_)
  exact ⟨(), trivial, rfl, hw.hs (C := cx Tryz.prog hm 0 0 w0 none' fun _ _ => True) (HS.last (I := G))⟩
theorem C_gleast (m : SH w0 none' ((bt, blk (trkC (some ⟨g, 0, none⟩) c 0 0) 277) :: (b8, blk [ptr bt 0] 250) :: G) w) (hP : RdL w0 2 eP2 (some ⟨g, 0, none⟩) ptE) :
    Ret Tryz.prog 115 [ptr bt 0, I 1000, fL b8].toArray w fun v w' => ∃ _ : Unit, True ∧ v = .tuple #[I 31831, I 0] ∧ SH w0 none' G w' := by
  refine Ret_ofH (vs := [_, _, _]) hm none' Tryz.func115 rfl Tryz.ntmps115 rfl m ?_
  dsimp only [slotsOf]
  refine Zp 4 [0, 1] rfl ?_;refine Zx [_] rfl rfl fun b3 => ?_;refine Zx [_] rfl rfl fun b5 => ?_;refine Zr 2 rfl ?_;refine GT_nil ?_;refine Zq [1, 3, 5] 5 [4] rfl rfl ?_;refine Zl rfl ag_250 rfl ?_;refine Zr 2 rfl ?_;refine Zf rfl fo_277_3 ?_;refine ZS [_] _ rfl rfl sz_2 rfl rfl rfl ?_;refine GT_nil ?_;refine Zq [3, 5] 3 [1] rfl rfl ?_;refine GT_S rfl (V_makeFunc rfl rfl rfl) ?_;refine GT_callX rfl rfl rfl rfl rfl rfl rfl rfl rn_130 (fun w m => C_gfirst (bt := bt) (b8 := b8) (p3 := b3) (p5 := b5) (c := c) (G := G) (by exact m.hs (HS.cons rfl (HS.cons rfl (HS.cons rfl (HS.cons rfl (HS.last (I := G))))))) hP) (fun _ _ => GR_nil) (fun _ _ => ?_);refine Zv rfl ?_;refine Zz ?_;refine Zq [8] 2 [] rfl rfl ?_;refine Zv rfl ?_;refine GT_S rfl (V_isF (V_gtr rfl rfl rfl) (by decide)) ?_;refine GT_nil ?_;refine GE_cond_f rfl ?_;refine GE_skip ?_;refine Zp 3 [] rfl ?_;refine Zr 3 rfl ?_;refine GT_nil ?_;refine GE_ret Tryz.func115 ⟨_, _, rfl, rfl, rfl⟩ (fun w hw => ?_)
  exact ⟨(), trivial, rfl, hw.hs (C := cx Tryz.prog hm 0 0 w0 none' fun _ _ => True) (HS.last (I := G))⟩
theorem C_Least (hP : RdL w 2 eP2 (some ⟨g, 0, none⟩) ptE) : Con0 Tryz.prog 90 [cutV, .slice (some ⟨g, 0, none⟩) 3 c, I 1000] w (.tuple #[I 31831, I 0]) := by
  refine Ret_of (vs := [_, _, _]) hm none' Tryz.func90 rfl Tryz.ntmps90 rfl ?_
  dsimp only [slotsOf]
  refine Zp 3 [0] rfl ?_;refine Zx [_, _, _, _, _, _, _] rfl rfl fun b3 => ?_;refine Zr 2 rfl ?_;refine GT_nil ?_;refine Zp 9 [2, 6, 7] rfl ?_;refine ZN [_, _, _, _, _, _, _] rfl ag_195 sz_195 rfl rfl ?_;refine Zv rfl ?_;refine ZC rfl rn_113 (fun w hw => C_newTrack (hP.sh hw)) (fun _ _ => GR_nil) (fun bt _ => ?_);refine Zr 3 rfl ?_;refine Zb rfl zc_250 fun b8 => ?_;refine ZS [_] [_] rfl rfl sz_250 rfl rfl rfl ?_;refine Zv rfl ?_;refine Zz ?_;refine Zq [2, 8, 9] 2 [] rfl rfl ?_;refine Zv rfl ?_;refine GT_S rfl (V_eql rfl rfl rfl) ?_;refine GT_nil ?_;refine GE_cond_t rfl ?_;refine ZP 3 [1] rfl ?_;refine Zv rfl ?_;refine Zc rfl rn_114 (fun w hw => C_checkPlace ⟨by decide, by decide⟩ ⟨by decide, by decide⟩) GR_nil ?_;refine Zv rfl ?_;refine Zz ?_;refine Zq [2, 8, 9] 2 [] rfl rfl ?_;refine Zv rfl ?_;refine GT_S rfl (V_neq rfl rfl rfl) ?_;refine GT_nil ?_;refine GE_cond_f rfl ?_;refine GE_skip ?_;refine Zp 8 [3] rfl ?_;refine Zl rfl ag_250 rfl ?_;refine Zv rfl ?_;refine GT_S rfl (V_makeFunc rfl rfl rfl) ?_;refine GT_callX rfl rfl rfl rfl rfl rfl rfl rfl rn_115 (fun w m => C_gleast (bt := bt) (b8 := b8) (c := c) (G := []) (by exact m.hs (HS.cons rfl (HS.cons rfl HS.nil))) hP) (fun _ _ => GR_nil) (fun _ _ => ?_);refine Zr 4 rfl ?_;refine GT_nil ?_;refine GE_ret Tryz.func90 ⟨_, _, rfl, rfl, rfl⟩ (fun w hw => ⟨?_, hw.nil⟩)
  rfl
end
end Go.Proofs.YtncleikbggjmjaaGreatDoor.Side
