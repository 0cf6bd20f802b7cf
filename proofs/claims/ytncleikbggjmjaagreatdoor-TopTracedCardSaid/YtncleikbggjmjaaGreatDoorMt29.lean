/- Texts of this proof, one behind the other: Ta4, Th1, LaS, La1, LaT. -/
import Derived.Test.YtncleikbggjmjaaGreatDoorMt0
import Derived.Test.YtncleikbggjmjaaGreatDoorMt28
import Derived.Test.YtncleikbggjmjaaGreatDoorMt27
import Derived.Test.YtncleikbggjmjaaGreatDoorMt17
import Derived.Test.YtncleikbggjmjaaGreatDoorMt16
import Derived.Test.YtncleikbggjmjaaGreatDoorMt11
import Derived.Test.YtncleikbggjmjaaGreatDoorMt9
import Derived.Test.YtncleikbggjmjaaGreatDoorMt15
/- Programmes are rendered, walked. -/
namespace Go.Proofs.YtncleikbggjmjaaGreatDoor.Take
open Go.Sx Go.Proofs Go.RowKit
section
variable {w : World} {A A2 : Option Addr} {c c2 : Nat} {l : List Tk} {p : List Prt}
theorem vR_bd (hg : ProgOk l p) : ∀ i k, i < p.length → 0 ≤ k → k < lng (pt p i) → (vR l p i k).bd 1000000 := by
  intro i k hi h0 h1
  have ho := hg.each i hi
  exact snd_bd hg.tks ho h0 h1 ho.lev.1 (by have := ho.lev.2; omega)
theorem mixN_bd8 {v : Nat → Int → Sam} (hg : ProgOk l p) (hv : ∀ i k, i < p.length → 0 ≤ k → k < lng (pt p i) → (v i k).bd 1000000) {i : Nat} (hi : i ≤ p.length) (t : Int) : (mixN p v i t).bd 100000000 := by
  have h := mixN_bd (B := 1000000) (by decide) i t hi hv
  have := hg.most
  exact Sam.bd.mono h (by omega)
set_option maxRecDepth 10000 in
set_option maxHeartbeats 2000000 in
theorem C_Render (h : Tks w A l) (hp : RdL w 7 ePrt A2 p) : Con Tryz.prog 92 [.slice A l.length c, .slice A2 p.length c2] w (fun y : Option Addr × Nat × Items => Own 2 198 eSam (rendL l p) (.slice y.1 (rendL l p).length y.2.1) y.2.2)
    (fun y => .tuple #[.slice y.1 (rendL l p).length y.2.1, I (rErr l p)]) (fun y => y.2.2) := by
  by_cases hg : gErr l p = 0
  · have hP := gErr_zero.1 hg
    have hfl := hP.fin
    have hf0 := fin_nonneg hP
    have hml : (rend l p).length = (fin p).toNat := mix_len p (vR l p)
    have hpm := hP.most
    refine Ret_of (vs := [_, _]) hm none' Tryz.func92 rfl Tryz.ntmps92 rfl ?_
    dsimp only [slotsOf]
    refine Zp 2 [] rfl ?_;refine Zr 2 rfl ?_;refine GT_nil ?_;refine Zp 8 [2] rfl ?_;refine Zr 2 rfl ?_;refine ZC rfl rn_119 (fun w hw => C_new_ok (h.sh hw) (hp.sh hw) hg) (fun _ _ => GR_nil) (fun y hy => ?_);refine Zr 5 rfl ?_;refine Zz ?_;refine Zq [6, 7] 2 [] rfl rfl ?_;refine Zv rfl ?_;refine GT_S rfl (V_isF (V_neq rfl rfl rfl) (by decide)) ?_;refine GT_nil ?_;refine GE_cond_f rfl ?_;refine GE_skip ?_;refine Zp 6 [4] rfl ?_;refine Zr 2 rfl ?_;refine Zg rfl fo_264_2 rfl ag_3 rfl ?_;refine GT_makeSlice rfl rfl rfl rfl rfl rfl rfl Tryz.underlying199 zc_198 sz_198 by_198 (nn := (fin p).toNat) ⟨by omega, by omega, rfl⟩ ⟨by omega, by omega⟩ (fun _ => GR_nil) (fun b25 => ?_);refine Zv rfl ?_;refine Zz ?_;refine Zq [6, 8] 6 [] rfl rfl ?_;refine Zr 2 rfl ?_;refine Zg rfl fo_264_1 rfl ag_262 rfl ?_;refine Zn rfl Tryz.underlying262 ?_;refine Zv rfl ?_;refine GT_nil ?_;refine GE_block ?_;refine GE_to (GE_loop (ι := Nat × Items) (fun x => p.length - x.1) (fun x => [(6, ptr y.1 0), (8, .slice (some ⟨b25, 0, none⟩) (fin p).toNat (fin p).toNat), (29, .slice y.2.1 p.length y.2.2.1), (30, I p.length), (31, I x.1)]) (fun x => (y.1, blk [.slice A l.length c, .slice y.2.1 p.length y.2.2.1, I (fin p)] 264) :: (y.2.2.2 ++ x.2)) (fun x => x.1 ≤ p.length ∧ Own 2 198 eSam (mixP p (vR l p) x.1) (.slice (some ⟨b25, 0, none⟩) (fin p).toNat (fin p).toNat) x.2) ?_ (0, [(b25, blk ((List.replicate (fin p).toNat [I 0, I 0]).flatten) 198)]) ?_) ⟨rfl, rfl, rfl, rfl, rfl, trivial⟩ (HS.cons rfl (HS.chunk HS.last))
    · rintro ⟨i, I1⟩ ⟨hi, hO⟩ ih; dsimp only at hi hO ih ⊢
      refine Zp 1 [] rfl ?_;refine GT_S rfl (V_lss rfl rfl rfl) ?_;refine Zz ?_;refine GE_cond rfl (fun h1 => ?_) (fun h1 => ?_)
      · have hil : i < p.length := (by omega); have hbi := bgn_mono hP i hil; have hei := en_fin hP hil; have hlp := lng_pos (hP.each i hil); have hen : en p i = bgn p i + lng (pt p i) := rfl; obtain ⟨bn, hbn⟩ : ∃ bn : Nat, bgn p i = bn := ⟨(bgn p i).toNat, by omega⟩
        refine GE_skip ?_;refine GE_seq ?_;refine GE_block ?_;refine Zp 4 [2, 3] rfl ?_;refine GT_S rfl (V_index rfl rfl rfl Tryz.underlying262 sz_266 (k := i) rfl hil (hy.isSome (k := i) (by rw [plcs_len]; exact hil))) ?_;refine GT_S rfl (V_loadN (vs := [_, _, _, _, _, _, _, _, _, _]) rfl rfl ag_266 sz_266 rfl (CellsAt.ownE hy ePlc_len (by rw [plcs_len]; exact hil) (by rw [plcs_get hil, ePlc_plc]))) ?_;refine Zb rfl zc_266 fun b10 => ?_;refine ZS [_, _, _, _, _, _, _, _, _, _] [_, _, _, _, _, _, _, _, _, _] rfl rfl sz_266 rfl rfl rfl ?_;refine GT_nil ?_;refine Zp 3 [] rfl ?_;refine Zg rfl fo_266_2 rfl ag_3 rfl ?_;refine Zv rfl ?_;refine GT_nil ?_;refine GE_block ?_;refine GE_to (GE_loop (ι := Nat × Items) (fun x => (fin p).toNat - x.1) (fun x => [(6, ptr y.1 0), (8, .slice (some ⟨b25, 0, none⟩) (fin p).toNat (fin p).toNat), (10, ptr b10 0), (11, I x.1), (29, .slice y.2.1 p.length y.2.2.1), (30, I p.length), (31, I i)]) (fun x => (b10, blk [I (pt p i).tk, I (pt p i).fr, I (pt p i).to, I (pt p i).gap, I (pt p i).inn, I (pt p i).out, I (pt p i).lev, I i, I (bgn p i), I (en p i)] 266) :: (y.1, blk [.slice A l.length c, .slice y.2.1 p.length y.2.2.1, I (fin p)] 264) :: (y.2.2.2 ++ x.2)) (fun x => bgn p i ≤ x.1 ∧ (x.1 : Int) ≤ en p i ∧ Own 2 198 eSam (mixS p (vR l p) i x.1) (.slice (some ⟨b25, 0, none⟩) (fin p).toNat (fin p).toNat) x.2) ?_ (bn, I1) ?_) ⟨rfl, rfl, rfl, lookI rfl hbn, rfl, rfl, rfl, trivial⟩ (HS.cons rfl (HS.cons rfl (HS.chunk HS.last)))
        · rintro ⟨t, I2⟩ ⟨ht1, ht2, hO2⟩ ih2; dsimp only at ht1 ht2 hO2 ih2 ⊢
          refine GE_seq ?_;refine Zp 4 [] rfl ?_;refine Zv rfl ?_;refine Zg rfl fo_266_3 rfl ag_3 rfl ?_;refine GT_S rfl (V_lss rfl rfl rfl) ?_;refine GT_nil ?_;refine GE_cond rfl (fun h2 => ?_) (fun h2 => ?_)
          · have htl : t < (fin p).toNat := (by omega); have hml2 := mixS_len p (vR l p) i t; have hlv := (hP.each i hil).lev; have hnb := mixN_bd8 hP (vR_bd hP) (Nat.le_of_lt hil) (t : Int); have hvb := vR_bd hP i ((t : Int) - bgn p i) hil (by omega) (by omega)
            refine GE_skip ?_;refine GE_seq ?_;refine GE_block ?_;refine Zs [6, 8, 10, 11, 29, 30, 31] rfl ?_;refine GE_drawn (.st 0 (.st 1 (.st 2 (.st 3 (.st 4 (.st 5 (.st 6 (.st 7 (.st 8 (.st 9 (.st 10 (.st 11 (.st 12 (.st 13 (.st 14 (.ld 15 [0, 1, 2, 3, 4, 5] (.ld 16 [0, 1] (.st 17 (.ld 18 [] .nil))))))))))))))))))) [15, 16, 18] (by decide +kernel) ?_;refine Zr 4 rfl ?_;refine GT_S rfl (V_index rfl rfl rfl Tryz.underlying199 sz_198 (k := t) rfl htl rfl) ?_;refine GT_S rfl (V_loadN (vs := [_, _]) rfl rfl ag_198 sz_198 rfl (CellsAt.ownE hO2 eSam_len (by omega) (by rw [mixS_at htl]; rfl))) ?_;refine Zv rfl ?_;refine ZN [_, _, _, _, _, _, _, _, _, _] rfl ag_266 sz_266 rfl rfl ?_;refine Zv rfl ?_;refine Zg rfl fo_266_2 rfl ag_3 rfl ?_;refine Za rfl (by omega) ?_;refine Zf rfl fo_266_0 ?_;refine Zg rfl fo_210_6 rfl ag_2 rfl ?_;refine Zc rfl rn_121 (fun w hw => C_sound (i := i) (k := (t : Int) - bgn p i) (lev := (pt p i).lev) hil hP (by omega) (by omega) hlv.1 (by omega) (h.sh hw) (BlkAt.of hw)) (Rv rfl rfl (Rv rfl rfl (Rv rfl rfl (Rv rfl rfl (GR_S rfl rfl (V_index rfl rfl rfl Tryz.underlying199 sz_198 (k := t) rfl htl rfl) (GR_S rfl rfl (V_loadN (vs := [_, _]) rfl rfl ag_198 sz_198 rfl (CellsAt.ownE hO2 eSam_len (by omega) (by rw [mixS_at htl]; rfl))) GR_nil)))))) ?_;refine Zc rfl rn_120 (fun w hw => C_sum (a := mixN p (vR l p) i t) (b := snd l (pt p i) ((t : Int) - bgn p i) (pt p i).lev) hnb (Sam.bd.mono hvb (by decide))) (Rv rfl rfl (Rv rfl rfl GR_nil)) ?_;refine GT_S rfl (V_index rfl rfl rfl Tryz.underlying199 sz_198 (k := t) rfl htl rfl) ?_;refine GT_storeOwn (enc := eSam) (q := t) (xx := sad (mixN p (vR l p) i t) (vR l p i ((t : Int) - bgn p i))) rfl rfl rfl rfl rfl rfl rfl sz_198 hO2 eSam_len eSam_one (by omega) (by decide) (fun _ _ => GR_nil) (fun I3 hO3 => ?_);refine GT_nil ?_;refine GE_inBlock ?_;refine Zs [6, 8, 10, 11, 29, 30, 31] rfl ?_
            rw [mixS_set htl ht1 h2] at hO3
            refine ZP 3 [2] rfl ?_;refine Zv rfl ?_;refine Za rfl (by omega) ?_;refine Zw rfl ?_;refine GT_nil ?_
            exact GE_to (ih2 (t + 1, I3) ⟨by dsimp only; omega, by dsimp only; omega, hO3⟩ (by dsimp only; omega)) ⟨rfl, rfl, rfl, rfl, rfl, rfl, rfl, trivial⟩ (HS.cons rfl (HS.cons rfl (HS.chunk HS.last)))
          · have het : (t : Int) = en p i := (by omega)
            refine GE_exit rfl ?_;refine GE_inBlock ?_;refine Zs [6, 8, 29, 30, 31] rfl ?_;refine ZP 2 [1] rfl ?_;refine Za rfl (by omega) ?_;refine Zw rfl ?_;refine GT_nil ?_
            exact GE_to (ih (i + 1, I2) ⟨by dsimp only; omega, by rw [← mixS_end, ← het]; exact hO2⟩ (by dsimp only; omega)) ⟨rfl, rfl, rfl, rfl, rfl, trivial⟩ (HS.cons rfl (HS.chunk HS.last))
        · exact ⟨by dsimp only; omega, by dsimp only; omega, by dsimp only; rw [← hbn, mixS_begin]; exact hO⟩
      · obtain rfl : i = p.length := (by omega); rw [mixP_all] at hO
        refine GE_exit rfl ?_;refine GE_seq ?_;refine Zq [8] 3 [1] rfl rfl ?_;refine Zv rfl ?_;refine Zc rfl rn_111 (fun w hw => C_CheckSamplesN (s := rend l p) (mix_len p (vR l p)) (hO.rdH eSam_len hw)) GR_nil ?_;refine GT_S rfl (V_neq rfl rfl rfl) ?_;refine GT_nil ?_;refine GE_condNot rfl (fun h3 => ?_) (fun h3 => ?_)
        · refine Zq [] 2 [] rfl rfl ?_;refine Zr 2 rfl ?_;refine GT_nil ?_;refine GE_ret Tryz.func92 ⟨_, _, rfl, rfl, rfl⟩ (fun w hw => ?_)
          have e : rErr l p = 4 := (by rw [rErr, if_pos hg, if_neg h3]); have e2 : rendL l p = [] := if_neg (by omega); exact ⟨(none, 0, []), by dsimp only; rw [e2]; exact Own.nil, by dsimp only; rw [e, e2]; rfl, hw.nil⟩
        · refine GE_skip ?_;refine Zp 3 [] rfl ?_;refine Zr 3 rfl ?_;refine GT_nil ?_;refine GE_ret Tryz.func92 ⟨_, _, rfl, rfl, rfl⟩ (fun w hw => ?_)
          have e : rErr l p = 0 := (by rw [rErr, if_pos hg, if_pos h3]); have e2 : rendL l p = rend l p := if_pos e; exact ⟨(some ⟨b25, 0, none⟩, (fin p).toNat, I1), by dsimp only; rw [e2, hml]; exact hO, by dsimp only; rw [e, e2, hml], hw.chunk⟩
    · exact ⟨Nat.zero_le _, by rw [mixP_zero]; exact Own.made (x := (⟨0, 0⟩ : Sam)) rfl (by unfold maxLen; omega)⟩
  · have e : rErr l p = gErr l p := if_neg hg
    have e2 : rendL l p = [] := if_neg (by omega)
    refine Ret_of (vs := [_, _]) hm none' Tryz.func92 rfl Tryz.ntmps92 rfl ?_
    dsimp only [slotsOf]
    refine Zp 2 [] rfl ?_;refine Zr 2 rfl ?_;refine GT_nil ?_;refine Zp 8 [2] rfl ?_;refine Zr 2 rfl ?_;refine Zc rfl rn_119 (fun w hw => C_new_bad (h.sh hw) (hp.sh hw) hg) GR_nil ?_;refine Zr 5 rfl ?_;refine Zz ?_;refine Zq [6, 7] 2 [] rfl rfl ?_;refine Zv rfl ?_;refine GT_S rfl (V_isT (V_neq rfl rfl rfl) hg) ?_;refine GT_nil ?_;refine GE_cond_t rfl ?_;refine Zp 3 [] rfl ?_;refine Zr 3 rfl ?_;refine GT_nil ?_;refine GE_ret Tryz.func92 ⟨_, _, rfl, rfl, rfl⟩ (fun w hw => ?_)
    exact ⟨(none, 0, []), by dsimp only; rw [e2]; exact Own.nil, by dsimp only; rw [e, e2]; rfl, hw.nil⟩
end
end Go.Proofs.YtncleikbggjmjaaGreatDoor.Take
/- The works of chapter 03: the example of every layer. -/
namespace Go.Proofs.YtncleikbggjmjaaGreatDoor.Side
open Go.Sx Go.Proofs Go.RowKit
def wD : List Take.Sam := [⟨10, -10⟩, ⟨5, 0⟩]
def wL (a : Nat) : List Take.Tk := [⟨⟨#[97]⟩, some ⟨a, 0, none⟩, 2, wD⟩]
def wP : List Take.Prt := [⟨0, 0, 2, 0, 0, 0, 500⟩]
def wR : List Take.Sam := [⟨5, -5⟩, ⟨2, 0⟩]
theorem w_err (a : Nat) : Take.rErr (wL a) wP = 0 := by kernel_rfl
theorem w_rend (a : Nat) : Take.rendL (wL a) wP = wR := by kernel_rfl
section
variable {w : World} {A B : Option Addr} {c c2 : Nat}
theorem w_tks {w0 : World} {M : Nat → Prop} {H : Items} {y1 y3 : Nat} (m : SH w0 M H w) [HFind y1 H (blk ((wL y3).flatMap Take.eTk) 207)] [HFind y3 H (blk (wD.flatMap Take.eSam) 198)] : Take.Tks w (some ⟨y1, 0, none⟩) (wL y3) := by
  refine ⟨RdL.own' m Take.eTk_len, fun t ht => ?_⟩
  simp only [wL, List.mem_cons, List.not_mem_nil, or_false] at ht
  subst ht
  refine ⟨RdL.own' m Take.eSam_len, show 1 ≤ maxLen by decide, show 2 ≤ 2 by decide, fun s hs => ?_⟩
  simp only [wD, List.mem_cons, List.not_mem_nil, or_false] at hs
  rcases hs with rfl | rfl <;> exact ⟨by unfold Take.I64; decide, by unfold Take.I64; decide⟩
theorem C_RenderW {a : Nat} (h : Take.Tks w A (wL a)) (hp : RdL w 7 Take.ePrt B wP) : Con Tryz.prog 92 [.slice A 1 c, .slice B 1 c2] w (fun y : Option Addr × Nat × Items => Own 2 198 Take.eSam wR (.slice y.1 2 y.2.1) y.2.2)
    (fun y => .tuple #[.slice y.1 2 y.2.1, I 0]) (fun y => y.2.2) := by
  have h1 := Take.C_Render (c := c) (c2 := c2) h hp
  rw [w_err, w_rend] at h1
  exact h1
set_option maxRecDepth 20000 in
theorem C_works03 : Con0 Tryz.prog 65 [] w (.bool true) := by
  refine Ret_of (vs := []) hm none' Tryz.func65 rfl Tryz.ntmps65 rfl ?_
  dsimp only [slotsOf]
  refine Zp 1 [] rfl ?_;refine Zv rfl ?_;refine GT_nil ?_;refine Zp 3 [1, 2] rfl ?_;refine GT_S rfl (V_build (vs := [_, _, _, _, _, _, _]) rfl rfl zc_195 pl_195 sa_195 rfl) ?_;refine Zb rfl zc_195 fun b1 => ?_;refine ZS [_, _, _, _, _, _, _] [_, _, _, _, _, _, _] rfl rfl sz_195 rfl rfl rfl ?_;refine GT_nil ?_;refine Zp 11 [4, 5] rfl ?_;refine ZN [_, _, _, _, _, _, _] rfl ag_195 sz_195 rfl rfl ?_;refine GT_S rfl (V_build (vs := [_, _]) rfl rfl zc_198 pl_198 sa_198 rfl) ?_;refine GT_S rfl (V_build (vs := [_, _]) rfl rfl zc_198 pl_198 sa_198 rfl) ?_;refine GT_S rfl (V_build (vs := [_, _]) rfl rfl zc_198 pl_198 sa_198 rfl) ?_;refine GT_buildSlice (z := [_, _, _, _, _, _]) rfl rfl rfl rfl rfl Tryz.underlying199 zc_198 sz_198 (by decide) rfl rfl (fun _ => GR_nil) (fun b16 => ?_);refine ZC rfl rn_89 (fun w hw => C_Cut (RdL.own' (l := smS) hw Take.eSam_len)) (fun _ _ => GR_nil) (fun y hy => ?_);refine Zr 5 rfl ?_;refine GT_nil ?_;refine Zq [1, 2, 3] 8 [2] rfl rfl ?_;refine ZN [_, _, _, _, _, _, _] rfl ag_195 sz_195 rfl rfl ?_;refine Zv rfl ?_;refine Zc rfl rn_90 (fun w hw => C_Least (hy.rdH eP2_len hw)) GR_nil ?_;refine Zr 5 rfl ?_;refine GT_nil ?_;refine Zq [2, 3, 4, 5] 10 [0, 1, 3, 4] rfl rfl ?_;refine GT_buildSlice (z := [_]) rfl rfl rfl rfl rfl Tryz.underlying43 zc_2 sz_2 (by decide) rfl rfl (fun _ => GR_nil) (fun b27 => ?_);refine GT_buildSlice (z := [_]) rfl rfl rfl rfl rfl Tryz.underlying43 zc_2 sz_2 (by decide) rfl rfl (fun _ => GR_nil) (fun b28 => ?_);refine GT_S rfl (V_build (vs := [_, _, _]) rfl rfl zc_203 pl_203 sa_203 rfl) ?_;refine GT_buildSlice (z := [_, _, _, _]) rfl rfl rfl rfl rfl Tryz.underlying43 zc_2 sz_2 (by decide) rfl rfl (fun _ => GR_nil) (fun b30 => ?_);refine ZC rfl rn_91 (fun w hw => C_Apply (RdL.own' (l := [64]) hw eN_len) (RdL.own' (l := [128]) hw eN_len) (RdL.own' (l := xsE) hw eN_len) rfl) (fun _ _ => GR_nil) (fun z hz => ?_);refine Zr 5 rfl ?_;refine GT_nil ?_;refine Zq [2, 3, 4, 5, 6, 7] 13 [2, 4, 6, 7] rfl rfl ?_;refine GT_S rfl (V_build (vs := [_, _]) rfl rfl zc_198 pl_198 sa_198 rfl) ?_;refine GT_S rfl (V_build (vs := [_, _]) rfl rfl zc_198 pl_198 sa_198 rfl) ?_;refine GT_buildSlice (z := [_, _, _, _]) rfl rfl rfl rfl rfl Tryz.underlying199 zc_198 sz_198 (by decide) rfl rfl (fun _ => GR_nil) (fun b37 => ?_);refine GT_S rfl (V_build (vs := [_, _]) rfl rfl zc_207 pl_207 sa_207 rfl) ?_;refine GT_buildSlice (z := [_, _]) rfl rfl rfl rfl rfl Tryz.underlying208 zc_207 sz_207 (by decide) rfl rfl (fun _ => GR_nil) (fun b39 => ?_);refine GT_S rfl (V_build (vs := [_, _, _, _, _, _, _]) rfl rfl zc_210 pl_210 sa_210 rfl) ?_;refine GT_buildSlice (z := [_, _, _, _, _, _, _]) rfl rfl rfl rfl rfl Tryz.underlying211 zc_210 sz_210 (by decide) rfl rfl (fun _ => GR_nil) (fun b41 => ?_);refine ZC rfl rn_92 (fun w hw => C_RenderW (a := b37) (w_tks hw) (RdL.own' hw Take.ePrt_len)) (fun _ _ => GR_nil) (fun v hv => ?_);refine Zr 5 rfl ?_;refine GT_nil ?_;refine Zq [2, 3, 4, 5, 6, 7, 8, 9] 54 [] rfl rfl ?_;refine Zv rfl ?_;refine GT_S rfl (V_isT (V_eql rfl rfl rfl) rfl) ?_;refine Zr 2 rfl ?_;refine GT_S rfl (V_isT (V_eql rfl rfl rfl) rfl) ?_;refine Zr 3 rfl ?_;refine GT_S rfl (V_isT (V_eql rfl rfl rfl) rfl) ?_;refine Zr 3 rfl ?_;refine GT_S rfl (V_isT (V_eql rfl rfl rfl) rfl) ?_;refine Zr 3 rfl ?_;refine Zn rfl Tryz.underlying109 ?_;refine GT_S rfl (V_isT (V_eql rfl rfl rfl) rfl) ?_;refine Zr 3 rfl ?_;refine GT_S rfl (V_index (k := 1) rfl rfl rfl Tryz.underlying109 sz_115 rfl (by decide) (hy.isSome (k := 1) (by decide))) ?_;refine GT_S rfl (V_loadN (vs := [_, _]) rfl rfl ag_115 sz_115 rfl (CellsAt.ownE hy eP2_len (k := 1) (by decide) rfl)) ?_;refine GT_S rfl (V_build (vs := [_, _]) rfl rfl zc_115 pl_115 sa_115 rfl) ?_;refine GT_S rfl (V_isT (V_eqlInts (zs := [-200, 600]) (zs' := [-200, 600]) rfl rfl rfl is_115 rfl rfl) rfl) ?_;refine Zr 3 rfl ?_;refine GT_S rfl (V_isT (V_eql rfl rfl rfl) rfl) ?_;refine Zr 3 rfl ?_;refine Zn rfl Tryz.underlying43 ?_;refine GT_S rfl (V_isT (V_eql rfl rfl rfl) rfl) ?_;refine Zr 3 rfl ?_;refine GT_S rfl (V_index (k := 1) rfl rfl rfl Tryz.underlying43 sz_2 rfl (by decide) (hz.isSome (k := 1) (by decide))) ?_;refine ZL rfl ag_2 (CellAt.own0 hz eN_len (k := 1) (by decide) rfl) ?_;refine GT_S rfl (V_isT (V_eql rfl rfl rfl) rfl) ?_;refine Zr 3 rfl ?_;refine Zn rfl Tryz.underlying199 ?_;refine GT_S rfl (V_isT (V_eql rfl rfl rfl) rfl) ?_;refine Zr 3 rfl ?_;refine GT_S rfl (V_index (k := 0) rfl rfl rfl Tryz.underlying199 sz_198 rfl (by decide) (hv.isSome (k := 0) (by decide))) ?_;refine GT_S rfl (V_loadN (vs := [_, _]) rfl rfl ag_198 sz_198 rfl (CellsAt.ownE hv Take.eSam_len (k := 0) (by decide) rfl)) ?_;refine GT_S rfl (V_build (vs := [_, _]) rfl rfl zc_198 pl_198 sa_198 rfl) ?_;refine GT_S rfl (V_isT (V_eqlInts (zs := [5, -5]) (zs' := [5, -5]) rfl rfl rfl is_198 rfl rfl) rfl) ?_;refine Zr 2 rfl ?_;refine GT_nil ?_;refine GE_ret Tryz.func65 rfl (fun w hw => ⟨?_, hw.nil⟩)
  rfl
end
end Go.Proofs.YtncleikbggjmjaaGreatDoor.Side
/- What the lathe's functions come to, in plain Lean: what both texts share. -/
namespace Go.Proofs.YtncleikbggjmjaaGreatDoor.Lathe
open Go.Sx
def I64 (x : Int) : Prop := -9223372036854775808 ≤ x ∧ x ≤ 9223372036854775807
theorem I64.of {x : Int} (h : (Lit.int .i64 x).wf = true) : I64 x := by
  simp [Lit.wf, IntKind.min, IntKind.max, IntKind.signed, IntKind.bits] at h
  unfold I64; omega
theorem u8_of {x : Int} (h : (Lit.int .u8 x).wf = true) : 0 ≤ x ∧ x ≤ 255 := by
  simp [Lit.wf, IntKind.min, IntKind.max, IntKind.signed, IntKind.bits] at h
  omega
def betw (x lo hi : Int) : Bool := decide (lo ≤ x) && decide (x ≤ hi)
theorem betw_iff {x lo hi : Int} : betw x lo hi = true ↔ lo ≤ x ∧ x ≤ hi := by simp [betw]
structure Blank where
  per : Int
  rim : Int
  core : Int
  land : Int
  slow : Int
  fast : Int
def Blank.cells (b : Blank) : List Value := [I b.per, I b.rim, I b.core, I b.land, I b.slow, I b.fast]
abbrev Blank.val (b : Blank) : Value := .agg b.cells.toArray
def Blank.ok (b : Blank) : Bool := betw b.per 1 65536 && betw b.rim 0 4194304 && betw b.core 0 b.rim && betw b.land 0 65536 && betw b.fast 0 65536 && betw b.slow 0 b.fast
def Blank.check (b : Blank) : Int := if b.ok then 0 else 2
theorem Blank.ok_iff {b : Blank} : b.ok = true ↔ (1 ≤ b.per ∧ b.per ≤ 65536) ∧ (0 ≤ b.rim ∧ b.rim ≤ 4194304) ∧ (0 ≤ b.core ∧ b.core ≤ b.rim) ∧ (0 ≤ b.land ∧ b.land ≤ 65536) ∧ (0 ≤ b.fast ∧ b.fast ≤ 65536) ∧ (0 ≤ b.slow ∧ b.slow ≤ b.fast) := by
  simp [Blank.ok, betw_iff, and_assoc]
theorem Blank.check_ne {b : Blank} : ¬ b.check = 0 ↔ b.ok = false := by
  unfold Blank.check; cases b.ok <;> simp
theorem Blank.check_of {b : Blank} (h : b.ok = false) : b.check = 2 := by simp [Blank.check, h]
structure Pt where
  inn : Int
  out : Int
instance : Inhabited Pt := ⟨⟨0, 0⟩⟩
def ePt (p : Pt) : List Value := [I p.inn, I p.out]
theorem ePt_len (p : Pt) : (ePt p).length = 2 := rfl
structure Nar where
  a : Int
  b : Int
instance : Inhabited Nar := ⟨⟨0, 0⟩⟩
def ptOk (p : Pt) : Bool := betw p.inn (-4194304) 4194304 && betw p.out (-4194304) 4194304
def ptsCheck (l : List Pt) : Int := if 4096 < l.length then 6 else if l.all ptOk then 0 else 2
def eI (x : Int) : List Value := [I x]
theorem eI_len (x : Int) : (eI x).length = 1 := rfl
theorem eI_one : ∀ x, ∀ u ∈ eI x, u.oneCell' = true := by intro x u hu; simp only [eI, List.mem_singleton] at hu; subst hu; rfl
/-! the reference's greatest radii -/
def start (b : Blank) (l : List Pt) : List Int := l.map fun p => b.rim - p.out
theorem start_length (b : Blank) (l : List Pt) : (start b l).length = l.length := by simp [start]
def most1 (b : Blank) (r : List Int) (i : Nat) : Int := if 0 < i then min (r.getD i default) (r.getD (i - 1) default - b.slow) else r.getD i default
def most2 (b : Blank) (l : List Pt) (r : List Int) (i : Nat) : Int :=
  if b.per ≤ i then min (most1 b r i) (r.getD (i - b.per.toNat) default + (l.getD (i - b.per.toNat) default).inn - (l.getD i default).out - b.land) else most1 b r i
def most (b : Blank) (l : List Pt) (r : List Int) (i : Nat) : Int := if i + 1 < l.length then min (most2 b l r i) (r.getD (i + 1) default + b.fast) else most2 b l r i
def sweepTo (b : Blank) (l : List Pt) : Nat → List Int → List Int × Bool
  | 0, r => (r, false)
  | i + 1, r => let s := sweepTo b l i r; (s.1.set i (most b l s.1 i), s.2 || decide (most b l s.1 i < s.1.getD i default))
def grounds (b : Blank) (l : List Pt) : Nat → List Int → Option (List Int)
  | 0, _ => none
  | f + 1, r => if (sweepTo b l l.length r).2 then grounds b l f (sweepTo b l l.length r).1 else some (sweepTo b l l.length r).1
def greatest (b : Blank) (l : List Pt) : Option (List Int) := grounds b l (l.length + 2) (start b l)
def Bd (r : List Int) (n : Nat) (lo : Int) : Prop := ∀ q, q < n → lo ≤ r.getD q default ∧ r.getD q default ≤ 16777216
theorem getD_set_self {r : List Int} {i : Nat} {x : Int} (h : i < r.length) : (r.set i x).getD i default = x := by simp [List.getD, h]
theorem getD_set_ne {r : List Int} {i q : Nat} {x : Int} (h : i ≠ q) : (r.set i x).getD q default = r.getD q default := by simp [List.getD, h]
theorem Bd.set {r : List Int} {n i : Nat} {x lo : Int} (h : Bd r n lo) (hi : i < r.length) (hx : lo - 16777216 ≤ x ∧ x ≤ 16777216) : Bd (r.set i x) n (lo - 16777216) := by
  intro q hq
  by_cases hqi : i = q
  · subst hqi; rw [getD_set_self hi]; exact hx
  · rw [getD_set_ne hqi]; have := h q hq; omega
theorem all_take_succ {α : Type} [Inhabited α] {l : List α} {f : α → Bool} {k : Nat} (hk : k < l.length) : (l.take (k + 1)).all f = ((l.take k).all f && f (l.getD k default)) := by
  rw [List.take_succ_eq_append_getElem hk, List.all_append]
  simp [List.getD, hk]
theorem not_all_of {α : Type} [Inhabited α] {l : List α} {f : α → Bool} {k : Nat} (hk : k < l.length) (h : f (l.getD k default) = false) : l.all f = false := by
  rw [List.all_eq_false]
  exact ⟨l[k], List.getElem_mem hk, by simp [List.getD, hk] at h; simp [h]⟩
end Go.Proofs.YtncleikbggjmjaaGreatDoor.Lathe
/- lathe: the small functions, walked -/
namespace Go.Proofs.YtncleikbggjmjaaGreatDoor.Lathe
open Go.Sx Go.Proofs
theorem C_lathe_between {x lo hi : Int} {w : World} : Con0 Tryz.prog 124 [I x, I lo, I hi] w (.bool (betw x lo hi)) := by
  refine Ret_of (vs := [_, _, _]) hm none' Tryz.func124 rfl Tryz.ntmps124 rfl ?_
  dsimp only [slotsOf]
  refine Zp 1 [] rfl ?_;refine Zv rfl ?_;refine GT_nil ?_;refine Zp 9 [] rfl ?_;refine Zr 2 rfl ?_;refine GT_S rfl (V_geq rfl rfl rfl) ?_;refine Zv rfl ?_;refine GT_split (d := 10) rfl (fun h1 => ?_) (fun h1 => ?_)
  · refine Zr 2 rfl ?_;refine GT_S rfl (V_leq rfl rfl rfl) ?_;refine Zr 2 rfl ?_;refine GT_nil ?_;refine GE_ret Tryz.func124 rfl (fun w hw => ⟨?_, hw.nil⟩)
    simp [betw, *]
  · refine Zr 5 rfl ?_;refine GT_nil ?_;refine GE_ret Tryz.func124 rfl (fun w hw => ⟨?_, hw.nil⟩)
    simp [betw, *]
theorem C_groove_between {x lo hi : Int} {w : World} : Con0 Tryz.prog 122 [I x, I lo, I hi] w (.bool (betw x lo hi)) := by
  refine Ret_of (vs := [_, _, _]) hm none' Tryz.func122 rfl Tryz.ntmps122 rfl ?_
  dsimp only [slotsOf]
  refine Zp 1 [] rfl ?_;refine Zv rfl ?_;refine GT_nil ?_;refine Zp 9 [] rfl ?_;refine Zr 2 rfl ?_;refine GT_S rfl (V_geq rfl rfl rfl) ?_;refine Zv rfl ?_;refine GT_split (d := 10) rfl (fun h1 => ?_) (fun h1 => ?_)
  · refine Zr 2 rfl ?_;refine GT_S rfl (V_leq rfl rfl rfl) ?_;refine Zr 2 rfl ?_;refine GT_nil ?_;refine GE_ret Tryz.func122 rfl (fun w hw => ⟨?_, hw.nil⟩)
    simp [betw, *]
  · refine Zr 5 rfl ?_;refine GT_nil ?_;refine GE_ret Tryz.func122 rfl (fun w hw => ⟨?_, hw.nil⟩)
    simp [betw, *]
theorem C_lathe_Check {b : Blank} {w : World} : Con0 Tryz.prog 103 [b.val] w (I b.check) := by
  refine Ret_of (vs := [_]) hm none' Tryz.func103 rfl Tryz.ntmps103 rfl ?_
  dsimp only [slotsOf]
  refine Zp 2 [0] rfl ?_;refine Zx [_, _, _, _, _, _] rfl rfl fun b1 => ?_;refine Zv rfl ?_;refine Zz ?_;refine Zp 38 [2, 7, 15, 21, 27, 35] rfl ?_;refine Zg rfl fo_150_0 rfl ag_2 rfl ?_;refine Zc rfl rn_124 (fun w hw => C_lathe_between) GR_nil ?_;refine GT_S rfl (V_notB rfl rfl) ?_;refine Zv rfl ?_;refine GT_splitNotB (d := 7) rfl (fun h1 => ?_) (fun h1 => ?_)
  · refine Zr 2 rfl ?_;refine GT_skip_ld rfl rfl rfl rfl rfl (by decide) rfl rfl rfl GR_nil ?_;refine Zr 7 rfl ?_;refine GT_skip_ld rfl rfl rfl rfl rfl (by decide) rfl rfl rfl GR_nil ?_;refine Zr 5 rfl ?_;refine GT_skip_ld rfl rfl rfl rfl rfl (by decide) rfl rfl rfl GR_nil ?_;refine Zr 5 rfl ?_;refine GT_skip_ld rfl rfl rfl rfl rfl (by decide) rfl rfl rfl GR_nil ?_;refine Zr 7 rfl ?_;refine GT_skip_ld rfl rfl rfl rfl rfl (by decide) rfl rfl rfl GR_nil ?_;refine Zr 2 rfl ?_;refine GT_nil ?_;refine GE_cond_t rfl ?_;refine Zq [] 1 [] rfl rfl ?_;refine Zv rfl ?_;refine GT_nil ?_;refine GE_ret Tryz.func103 rfl (fun w hw => ⟨?_, hw.nil⟩)
    simp [Blank.check, Blank.ok, *]
  · refine Zg rfl fo_150_1 rfl ag_2 rfl ?_;refine Zc rfl rn_124 (fun w hw => C_lathe_between) GR_nil ?_;refine GT_S rfl (V_notB rfl rfl) ?_;refine Zr 2 rfl ?_;refine GT_splitNotB (d := 13) rfl (fun h2 => ?_) (fun h2 => ?_)
    · refine Zr 4 rfl ?_;refine GT_skip_ld rfl rfl rfl rfl rfl (by decide) rfl rfl rfl GR_nil ?_;refine Zr 5 rfl ?_;refine GT_skip_ld rfl rfl rfl rfl rfl (by decide) rfl rfl rfl GR_nil ?_;refine Zr 5 rfl ?_;refine GT_skip_ld rfl rfl rfl rfl rfl (by decide) rfl rfl rfl GR_nil ?_;refine Zr 7 rfl ?_;refine GT_skip_ld rfl rfl rfl rfl rfl (by decide) rfl rfl rfl GR_nil ?_;refine Zr 2 rfl ?_;refine GT_nil ?_;refine GE_cond_t rfl ?_;refine Zq [] 1 [] rfl rfl ?_;refine Zv rfl ?_;refine GT_nil ?_;refine GE_ret Tryz.func103 rfl (fun w hw => ⟨?_, hw.nil⟩)
      simp [Blank.check, Blank.ok, *]
    · refine Zg rfl fo_150_2 rfl ag_2 rfl ?_;refine Zg rfl fo_150_1 rfl ag_2 rfl ?_;refine Zc rfl rn_124 (fun w hw => C_lathe_between) GR_nil ?_;refine GT_S rfl (V_notB rfl rfl) ?_;refine Zr 2 rfl ?_;refine GT_splitNotB (d := 21) rfl (fun h3 => ?_) (fun h3 => ?_)
      · refine Zr 2 rfl ?_;refine GT_skip_ld rfl rfl rfl rfl rfl (by decide) rfl rfl rfl GR_nil ?_;refine Zr 5 rfl ?_;refine GT_skip_ld rfl rfl rfl rfl rfl (by decide) rfl rfl rfl GR_nil ?_;refine Zr 7 rfl ?_;refine GT_skip_ld rfl rfl rfl rfl rfl (by decide) rfl rfl rfl GR_nil ?_;refine Zr 2 rfl ?_;refine GT_nil ?_;refine GE_cond_t rfl ?_;refine Zq [] 1 [] rfl rfl ?_;refine Zv rfl ?_;refine GT_nil ?_;refine GE_ret Tryz.func103 rfl (fun w hw => ⟨?_, hw.nil⟩)
        simp [Blank.check, Blank.ok, *]
      · refine Zg rfl fo_150_3 rfl ag_2 rfl ?_;refine Zc rfl rn_124 (fun w hw => C_lathe_between) GR_nil ?_;refine GT_S rfl (V_notB rfl rfl) ?_;refine Zr 2 rfl ?_;refine GT_splitNotB (d := 27) rfl (fun h4 => ?_) (fun h4 => ?_)
        · refine Zr 2 rfl ?_;refine GT_skip_ld rfl rfl rfl rfl rfl (by decide) rfl rfl rfl GR_nil ?_;refine Zr 7 rfl ?_;refine GT_skip_ld rfl rfl rfl rfl rfl (by decide) rfl rfl rfl GR_nil ?_;refine Zr 2 rfl ?_;refine GT_nil ?_;refine GE_cond_t rfl ?_;refine Zq [] 1 [] rfl rfl ?_;refine Zv rfl ?_;refine GT_nil ?_;refine GE_ret Tryz.func103 rfl (fun w hw => ⟨?_, hw.nil⟩)
          simp [Blank.check, Blank.ok, *]
        · refine Zg rfl fo_150_5 rfl ag_2 rfl ?_;refine Zc rfl rn_124 (fun w hw => C_lathe_between) GR_nil ?_;refine GT_S rfl (V_notB rfl rfl) ?_;refine Zr 2 rfl ?_;refine GT_splitNotB (d := 33) rfl (fun h5 => ?_) (fun h5 => ?_)
          · refine Zr 4 rfl ?_;refine GT_skip_ld rfl rfl rfl rfl rfl (by decide) rfl rfl rfl GR_nil ?_;refine Zr 2 rfl ?_;refine GT_nil ?_;refine GE_cond_t rfl ?_;refine Zq [] 1 [] rfl rfl ?_;refine Zv rfl ?_;refine GT_nil ?_;refine GE_ret Tryz.func103 rfl (fun w hw => ⟨?_, hw.nil⟩)
            simp [Blank.check, Blank.ok, *]
          · refine Zg rfl fo_150_4 rfl ag_2 rfl ?_;refine Zg rfl fo_150_5 rfl ag_2 rfl ?_;refine Zc rfl rn_124 (fun w hw => C_lathe_between) GR_nil ?_;refine GT_S rfl (V_notB rfl rfl) ?_;refine Zv rfl ?_;refine GT_nil ?_;refine GE_condNotB rfl (fun h6 => ?_) (fun h6 => ?_)
            · refine Zq [] 1 [] rfl rfl ?_;refine Zv rfl ?_;refine GT_nil ?_;refine GE_ret Tryz.func103 rfl (fun w hw => ⟨?_, hw.nil⟩)
              simp [Blank.check, Blank.ok, *]
            · refine GE_skip ?_;refine Zq [] 1 [] rfl rfl ?_;refine Zv rfl ?_;refine GT_nil ?_;refine GE_ret Tryz.func103 rfl (fun w hw => ⟨?_, hw.nil⟩)
              simp [Blank.check, Blank.ok, *]
theorem C_groove_edged {p : Pt} {w : World} : Con0 Tryz.prog 96 [.agg (ePt p).toArray] w (.bool (ptOk p)) := by
  refine Ret_of (vs := [_]) hm none' Tryz.func96 rfl Tryz.ntmps96 rfl ?_
  dsimp only [slotsOf]
  refine Zp 2 [0] rfl ?_;refine Zx [_, _] rfl rfl fun b1 => ?_;refine Zv rfl ?_;refine GT_nil ?_;refine Zp 9 [2, 6] rfl ?_;refine Zg rfl fo_115_0 rfl ag_2 rfl ?_;refine Zc rfl rn_122 (fun w hw => C_groove_between) GR_nil ?_;refine Zv rfl ?_;refine GT_splitB (d := 6) rfl (fun h1 => ?_) (fun h1 => ?_)
  · refine Zg rfl fo_115_1 rfl ag_2 rfl ?_;refine Zc rfl rn_122 (fun w hw => C_groove_between) GR_nil ?_;refine Zr 2 rfl ?_;refine GT_nil ?_;refine GE_ret Tryz.func96 rfl (fun w hw => ⟨?_, hw.nil⟩)
    simp [ptOk, *]
  · refine Zr 2 rfl ?_;refine GT_skip_ld rfl rfl rfl rfl rfl (by decide) rfl rfl rfl GR_nil ?_;refine Zr 2 rfl ?_;refine GT_nil ?_;refine GE_ret Tryz.func96 rfl (fun w hw => ⟨?_, hw.nil⟩)
    simp [ptOk, *]
theorem C_groove_CheckPoints {A : Option Addr} {l : List Pt} {c : Nat} {w : World} (hp : RdL w 2 ePt A l) : Con0 Tryz.prog 81 [.slice A l.length c] w (I (ptsCheck l)) := by
  refine Ret_of (vs := [_]) hm none' Tryz.func81 rfl Tryz.ntmps81 rfl ?_
  dsimp only [slotsOf]
  refine Zp 1 [] rfl ?_;refine Zv rfl ?_;refine Zz ?_;refine Zp 3 [] rfl ?_;refine Zv rfl ?_;refine Zn rfl Tryz.underlying109 ?_;refine GT_S rfl (V_gtr rfl rfl rfl) ?_;refine GT_nil ?_;refine GE_cond rfl (fun h1 => ?_) (fun h1 => ?_)
  · refine Zq [] 1 [] rfl rfl ?_;refine Zv rfl ?_;refine GT_nil ?_;refine GE_ret Tryz.func81 rfl (fun w hw => ⟨?_, hw.nil⟩)
    first | (simp [ptsCheck, *]; done) | (simp only [ptsCheck]; rw [if_pos (by omega)]) | (simp only [ptsCheck]; rw [if_neg (by omega), hn]; rfl) | (simp only [ptsCheck]; rw [List.take_of_length_le (by omega)] at hall; rw [if_neg (by omega), hall]; rfl)
  · refine GE_skip ?_;refine GE_seq ?_;refine Zq [0] 3 [] rfl rfl ?_;refine Zv rfl ?_;refine Zn rfl Tryz.underlying109 ?_;refine Zv rfl ?_;refine GT_nil ?_;refine GE_block ?_;refine GE_to (GE_loop (ι := Nat) (fun k => l.length - k) (fun k => [(8, .slice A l.length c), (9, I l.length), (10, I k)]) (fun k => []) (fun k => k ≤ l.length ∧ (l.take k).all ptOk = true) ?_ 0 ?_) ⟨rfl, rfl, rfl, trivial⟩ HS.nil
    · rintro k ⟨hk, hall⟩ ih
      refine Zp 1 [] rfl ?_;refine GT_S rfl (V_lss rfl rfl rfl) ?_;refine Zz ?_;refine GE_cond rfl (fun h2 => ?_) (fun h2 => ?_)
      · have hlt : k < l.length := by omega
        refine GE_skip ?_;refine GE_seq ?_;refine GE_block ?_;refine Zp 4 [2, 3] rfl ?_;refine GT_S rfl (V_index rfl rfl rfl Tryz.underlying109 sz_115 rfl hlt (hp.isSome hlt)) ?_;refine GT_S rfl (V_loadN (vs := [_, _]) rfl rfl ag_115 sz_115 rfl (hp.ats noM hlt)) ?_;refine Zb rfl zc_115 fun b4 => ?_;refine ZS [_, _] [_, _] rfl rfl sz_115 rfl rfl rfl ?_;refine GT_nil ?_;refine Zp 3 [1] rfl ?_;refine ZN [_, _] rfl ag_115 sz_115 rfl rfl ?_;refine Zc rfl rn_96 (fun w hw => C_groove_edged (p := l.getD k default)) GR_nil ?_;refine GT_S rfl (V_notB rfl rfl) ?_;refine GT_nil ?_;refine GE_condNotB rfl (fun hb => ?_) (fun hb => ?_)
        · have hn := not_all_of hlt hb
          refine Zq [] 1 [] rfl rfl ?_;refine Zv rfl ?_;refine GT_nil ?_;refine GE_ret Tryz.func81 rfl (fun w hw => ⟨?_, hw.nil⟩)
          first | (simp [ptsCheck, *]; done) | (simp only [ptsCheck]; rw [if_pos (by omega)]) | (simp only [ptsCheck]; rw [if_neg (by omega), hn]; rfl) | (simp only [ptsCheck]; rw [List.take_of_length_le (by omega)] at hall; rw [if_neg (by omega), hall]; rfl)
        · refine GE_skip ?_;refine GE_inBlock ?_;refine Zs [8, 9, 10] rfl ?_;refine ZP 2 [1] rfl ?_;refine Za rfl (by omega) ?_;refine Zw rfl ?_;refine GT_nil ?_
          exact GE_to (ih (k + 1) ⟨by omega, by rw [all_take_succ (by omega), hall, hb]; rfl⟩ (by omega)) ⟨rfl, rfl, rfl, trivial⟩ HS.nil
      · refine GE_exit rfl ?_;refine Zq [] 1 [] rfl rfl ?_;refine Zv rfl ?_;refine GT_nil ?_;refine GE_ret Tryz.func81 rfl (fun w hw => ⟨?_, hw.nil⟩)
        first | (simp [ptsCheck, *]; done) | (simp only [ptsCheck]; rw [if_pos (by omega)]) | (simp only [ptsCheck]; rw [if_neg (by omega), hn]; rfl) | (simp only [ptsCheck]; rw [List.take_of_length_le (by omega)] at hall; rw [if_neg (by omega), hall]; rfl)
    · exact ⟨Nat.zero_le _, by simp⟩
end Go.Proofs.YtncleikbggjmjaaGreatDoor.Lathe
/- The lathe's own search, in plain Lean: its edges, its rounds. -/
namespace Go.Proofs.YtncleikbggjmjaaGreatDoor.Lathe
open Go.Sx
structure Stp where
  rule : Int
  samp : Int
instance : Inhabited Stp := ⟨⟨0, 0⟩⟩
def eStp (s : Stp) : List Value := [I s.rule, I s.samp]
theorem eStp_len (s : Stp) : (eStp s).length = 2 := rfl
theorem eStp_one : ∀ x, ∀ u ∈ eStp x, u.oneCell' = true := by intro x u hu; simp only [eStp, List.mem_cons, List.not_mem_nil, or_false] at hu; rcases hu with rfl | rfl <;> rfl
structure Edge where
  rule : Int
  samp : Int
  frm : Int
  to : Int
  wt : Int
instance : Inhabited Edge := ⟨⟨0, 0, 0, 0, 0⟩⟩
def eEdge (x : Edge) : List Value := [I x.rule, I x.samp, I x.frm, I x.to, I x.wt]
theorem eEdge_len (s : Edge) : (eEdge s).length = 5 := rfl
theorem eEdge_one : ∀ x, ∀ u ∈ eEdge x, u.oneCell' = true := by intro x u hu; simp only [eEdge, List.mem_cons, List.not_mem_nil, or_false] at hu; rcases hu with rfl | rfl | rfl | rfl | rfl <;> rfl
def Edge.stp (x : Edge) : Stp := ⟨x.rule, x.samp⟩
def edgeOf (b : Blank) (l : List Pt) (rule samp : Int) : Edge × Bool :=
  if samp < 0 ∨ (l.length : Int) ≤ samp then (⟨rule, samp, samp, samp, 0⟩, false)
  else if rule = 1 then (⟨rule, samp, -1, samp, b.rim - (l.getD samp.toNat default).out⟩, true)
  else if rule = 2 then (⟨rule, samp, samp, -1, (l.getD samp.toNat default).inn - b.core⟩, true)
  else if rule = 3 then (⟨rule, samp, samp - 1, samp, 0 - b.slow⟩, decide (0 < samp))
  else if rule = 4 then (⟨rule, samp, samp, samp - 1, b.fast⟩, decide (0 < samp))
  else if rule = 5 then
    if samp < b.per then (⟨rule, samp, samp, samp, 0⟩, false)
    else (⟨rule, samp, samp - b.per, samp, (l.getD (samp - b.per).toNat default).inn - (l.getD samp.toNat default).out - b.land⟩, true)
  else (⟨rule, samp, samp, samp, 0⟩, false)
def optE (x : Edge × Bool) : List Edge := if x.2 then [x.1] else []
def inward (b : Blank) (l : List Pt) (i : Nat) : List Edge := optE (edgeOf b l 3 i) ++ optE (edgeOf b l 5 i)
def edgeList (b : Blank) (l : List Pt) : List Edge := (List.range l.length).flatMap (inward b l) ++ (List.range (l.length - 1)).reverse.flatMap fun i : Nat => optE (edgeOf b l 4 ((i : Int) + 1))
structure Srch where
  r : List Int
  last : List Edge
  ch : Int
def relax (s : Srch) (x : Edge) : Srch :=
  if s.r.getD x.to.toNat default ≤ s.r.getD x.frm.toNat default + x.wt then s
  else ⟨s.r.set x.to.toNat (s.r.getD x.frm.toNat default + x.wt), s.last.set x.to.toNat x, x.to⟩
def round (b : Blank) (l : List Pt) (r : List Int) (last : List Edge) : Srch := (edgeList b l).foldl relax ⟨r, last, -1⟩
def rounds (b : Blank) (l : List Pt) : Nat → List Int → List Edge → Srch
  | 0, r, last => ⟨r, last, -1⟩
  | f + 1, r, last => let s := round b l r last; if s.ch = -1 then s else if f = 0 then s else rounds b l f s.r s.last
def rimEdges (b : Blank) (l : List Pt) : List Edge := (List.range l.length).map fun i : Nat => (edgeOf b l 1 i).1
def settled (b : Blank) (l : List Pt) : Srch := rounds b l (l.length + 2) (start b l) (rimEdges b l)
def par (last : List Edge) (v : Int) : Int := (last.getD v.toNat default).frm
def back (last : List Edge) : Nat → Int → Int
  | 0, v => v
  | k + 1, v => par last (back last k v)
end Go.Proofs.YtncleikbggjmjaaGreatDoor.Lathe
