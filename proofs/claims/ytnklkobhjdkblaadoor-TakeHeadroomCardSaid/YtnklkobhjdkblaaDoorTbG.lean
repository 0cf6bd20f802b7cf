/- The headroom; the document's sounds, programmes, headrooms; TakeRenders; walked. -/
import Derived.Test.YtnklkobhjdkblaaDoorTbC
import Derived.Test.YtnklkobhjdkblaaDoorTbF
import Derived.Test.YtnklkobhjdkblaaDoorTaG
namespace Go.Proofs.YtnklkobhjdkblaaDoor
open Go.Sx Go.Proofs Go.RowKit

section
variable {w : World} {A A2 A' : Option Addr} {c c2 c' g bq b3 : Nat} {l : List Tk} {p : List Prt}
theorem plc_ats {C : Cx} {H : Items} {k : Nat} (h : RdL C.w0 10 ePlc A' (plcs p p.length)) (hM : ∀ b, ¬ C.M b) (hk : k < p.length) : CellsAt C H ((ad A').add (k * 10)) [I (pt p k).tk, I (pt p k).fr, I (pt p k).to, I (pt p k).gap, I (pt p k).inn, I (pt p k).out, I (pt p k).lev, I k, I (bgn p k), I (en p k)] := by
  have := h.ats (H := H) hM (k := k) (by rw [plcs_len]; exact hk)
  rw [plcs_get hk, ePlc_plc] at this
  exact this
set_option maxRecDepth 10000 in
set_option maxHeartbeats 2000000 in
theorem C_hold {f : Int} (hbq : BlkAt w bq [ptr g 0] 76) (hbg : BlkAt w g [.slice A l.length c, .slice A' p.length c', I (fin p)] 81) (hpl : RdL w 10 ePlc A' (plcs p p.length)) (h : Tks w A l) (hP : ProgOk l p) (hf0 : 0 ≤ f) (hf1 : f ≤ 4000) :
    Con0 Tryd.prog 58 [I f, ptr bq 0] w (.bool (okH l p f)) := by
  have hfl := hP.fin
  have hfn := fin_nonneg hP
  have hpm := hP.most
  have hnn : (0 : Int) ≤ f := hf0
  refine Ret_of (vs := [_, _]) hm none' Tryd.func58 rfl Tryd.ntmps58 rfl ?_
  dsimp only [slotsOf]
  refine GE_seq ?_
  refine GE_plain (.st 0 .nil) rfl ?_
  refine GT_st rfl rfl rfl rfl (V_assign rfl rfl) ?_
  refine GT_nil ?_
  refine GE_seq ?_
  refine GE_plain (.st 0 (.st 1 (.st 2 (.st 3 (.ld 4 [] (.st 5 .nil)))))) rfl ?_
  first | refine GT_st rfl rfl rfl rfl (V_load rfl rfl ag_76 (CellAt.item rfl)) ?_ | refine GT_st rfl rfl rfl rfl (V_load rfl rfl ag_76 (CellAt.old (hbq.cell rfl) (noM _))) ?_ | refine GT_st rfl rfl rfl rfl (V_load rfl rfl ag_76 (CellAt.old (hbg.cell rfl) (noM _))) ?_
  first | refine GT_st rfl rfl rfl rfl (V_nilCheck rfl rfl) ?_ | refine GT_st rfl rfl rfl rfl (V_nilCheck_func rfl rfl) ?_ | refine GT_st rfl rfl rfl rfl (V_nilCheck_yield rfl rfl) ?_
  first | refine GT_st rfl rfl rfl rfl (V_field rfl rfl fo_81_2) ?_ | refine GT_st rfl rfl rfl rfl (V_fieldA rfl rfl fo_81_2) ?_
  first | refine GT_st rfl rfl rfl rfl (V_load rfl rfl ag_3 (CellAt.item rfl)) ?_ | refine GT_st rfl rfl rfl rfl (V_load rfl rfl ag_3 (CellAt.old (hbq.cell rfl) (noM _))) ?_ | refine GT_st rfl rfl rfl rfl (V_load rfl rfl ag_3 (CellAt.old (hbg.cell rfl) (noM _))) ?_
  refine GT_makeSlice rfl rfl rfl rfl rfl rfl rfl Tryd.underlying22 zc_35 sz_35 by_35 (nn := (fin p).toNat) ⟨by omega, by omega, rfl⟩ ⟨by omega, by omega⟩ (fun _ => GR_nil) (fun b12 => ?_)
  refine GT_st rfl rfl rfl rfl (V_assign rfl rfl) ?_
  refine GT_nil ?_
  refine GE_seq ?_
  refine GE_seq ?_
  refine GE_slots (L' := [(0, _), (1, _), (4, _)]) ⟨rfl, rfl, rfl, trivial⟩ ?_
  refine GE_plain (.st 0 (.st 1 (.st 2 (.st 3 (.st 4 (.st 5 .nil)))))) rfl ?_
  first | refine GT_st rfl rfl rfl rfl (V_load rfl rfl ag_76 (CellAt.item rfl)) ?_ | refine GT_st rfl rfl rfl rfl (V_load rfl rfl ag_76 (CellAt.old (hbq.cell rfl) (noM _))) ?_ | refine GT_st rfl rfl rfl rfl (V_load rfl rfl ag_76 (CellAt.old (hbg.cell rfl) (noM _))) ?_
  first | refine GT_st rfl rfl rfl rfl (V_nilCheck rfl rfl) ?_ | refine GT_st rfl rfl rfl rfl (V_nilCheck_func rfl rfl) ?_ | refine GT_st rfl rfl rfl rfl (V_nilCheck_yield rfl rfl) ?_
  first | refine GT_st rfl rfl rfl rfl (V_field rfl rfl fo_81_1) ?_ | refine GT_st rfl rfl rfl rfl (V_fieldA rfl rfl fo_81_1) ?_
  first | refine GT_st rfl rfl rfl rfl (V_load rfl rfl ag_79 (CellAt.item rfl)) ?_ | refine GT_st rfl rfl rfl rfl (V_load rfl rfl ag_79 (CellAt.old (hbq.cell rfl) (noM _))) ?_ | refine GT_st rfl rfl rfl rfl (V_load rfl rfl ag_79 (CellAt.old (hbg.cell rfl) (noM _))) ?_
  refine GT_st rfl rfl rfl rfl (V_len rfl Tryd.underlying79 rfl) ?_
  refine GT_st rfl rfl rfl rfl (V_move rfl rfl) ?_
  refine GT_nil ?_
  refine GE_block ?_
  refine GE_to (GE_loop (ι := Nat × Items) (fun x => p.length - x.1) (fun x => [(0, I f), (1, ptr bq 0), (4, .slice (some ⟨b12, 0, none⟩) (fin p).toNat (fin p).toNat), (16, .slice A' p.length c'), (17, I p.length), (18, I x.1)]) (fun x => x.2) (fun x => x.1 ≤ p.length ∧ Own 2 35 eSam (mixP p (vH l p f) x.1) (.slice (some ⟨b12, 0, none⟩) (fin p).toNat (fin p).toNat) x.2) ?_ (0, [(b12, blk ((List.replicate (fin p).toNat [I 0, I 0]).flatten) 35)]) ?_) ⟨rfl, rfl, rfl, rfl, rfl, rfl, trivial⟩ HS.last
  · rintro ⟨i, I1⟩ ⟨hi, hO⟩ ih; dsimp only at hi hO ih ⊢
    refine GE_seq ?_
    refine GE_plain (.st 0 .nil) rfl ?_
    refine GT_st rfl rfl rfl rfl (V_lss rfl rfl rfl) ?_
    refine GT_nil ?_
    refine GE_seq ?_
    first | refine GE_condNot rfl (fun h1 => ?_) (fun h1 => ?_) | refine GE_cond rfl (fun h1 => ?_) (fun h1 => ?_) | refine GE_condNotB rfl (fun h1 => ?_) (fun h1 => ?_) | refine GE_condB rfl (fun h1 => ?_) (fun h1 => ?_)
    · have hil : i < p.length := (by omega); have hbi := bgn_mono hP i hil; have hei := en_fin hP hil; have hlp := lng_pos (hP.each i hil); have hen : en p i = bgn p i + lng (pt p i) := rfl; have hlf := lev_f (hP.each i hil) hf0 hf1; obtain ⟨bn, hbn⟩ : ∃ bn : Nat, bgn p i = bn := ⟨(bgn p i).toNat, by omega⟩
      refine GE_skip ?_
      refine GE_seq ?_
      refine GE_block ?_
      refine GE_seq ?_
      refine GE_plain (.st 0 (.st 1 (.ld 2 [] (.ld 3 [] .nil)))) rfl ?_
      refine GT_st rfl rfl rfl rfl (V_index rfl rfl rfl Tryd.underlying79 sz_83 (k := i) rfl hil (hpl.isSome (k := i) (by rw [plcs_len]; exact hil))) ?_
      refine GT_st rfl rfl rfl rfl (V_loadN (vs := [_, _, _, _, _, _, _, _, _, _]) rfl rfl ag_83 sz_83 rfl (plc_ats hpl noM hil)) ?_
      refine GT_alloc rfl rfl rfl rfl rfl zc_83 (fun _ => GR_nil) (fun b6 => ?_)
      refine GT_store (vs := [_, _, _, _, _, _, _, _, _, _]) (l' := [_, _, _, _, _, _, _, _, _, _]) rfl rfl rfl rfl rfl rfl rfl sz_83 rfl rfl (Nat.le_of_ble_eq_true rfl) rfl (GR_nil) ?_
      refine GT_nil ?_
      refine GE_seq ?_
      refine GE_plain (.st 0 (.st 1 (.st 2 .nil))) rfl ?_
      first | refine GT_st rfl rfl rfl rfl (V_field rfl rfl fo_83_2) ?_ | refine GT_st rfl rfl rfl rfl (V_fieldA rfl rfl fo_83_2) ?_
      first | refine GT_st rfl rfl rfl rfl (V_load rfl rfl ag_3 (CellAt.item rfl)) ?_ | refine GT_st rfl rfl rfl rfl (V_load rfl rfl ag_3 (CellAt.old (hbq.cell rfl) (noM _))) ?_ | refine GT_st rfl rfl rfl rfl (V_load rfl rfl ag_3 (CellAt.old (hbg.cell rfl) (noM _))) ?_
      refine GT_st rfl rfl rfl rfl (V_assign rfl rfl) ?_
      refine GT_nil ?_
      refine GE_block ?_
      refine GE_to (GE_loop (ι := Nat × Items) (fun x => (fin p).toNat - x.1) (fun x => [(0, I f), (1, ptr bq 0), (4, .slice (some ⟨b12, 0, none⟩) (fin p).toNat (fin p).toNat), (6, ptr b6 0), (7, I x.1), (16, .slice A' p.length c'), (17, I p.length), (18, I i)]) (fun x => (b6, blk [I (pt p i).tk, I (pt p i).fr, I (pt p i).to, I (pt p i).gap, I (pt p i).inn, I (pt p i).out, I (pt p i).lev, I i, I (bgn p i), I (en p i)] 83) :: x.2) (fun x => bgn p i ≤ x.1 ∧ (x.1 : Int) ≤ en p i ∧ Own 2 35 eSam (mixS p (vH l p f) i x.1) (.slice (some ⟨b12, 0, none⟩) (fin p).toNat (fin p).toNat) x.2) ?_ (bn, I1) ?_) ⟨rfl, rfl, rfl, rfl, lookI rfl hbn, rfl, rfl, rfl, trivial⟩ (HS.cons rfl HS.last)
      · rintro ⟨t, I2⟩ ⟨ht1, ht2, hO2⟩ ih2; dsimp only at ht1 ht2 hO2 ih2 ⊢
        refine GE_seq ?_
        refine GE_seq ?_
        refine GE_plain (.st 0 (.st 1 (.st 2 (.st 3 .nil)))) rfl ?_
        refine GT_st rfl rfl rfl rfl (V_move rfl rfl) ?_
        first | refine GT_st rfl rfl rfl rfl (V_field rfl rfl fo_83_3) ?_ | refine GT_st rfl rfl rfl rfl (V_fieldA rfl rfl fo_83_3) ?_
        first | refine GT_st rfl rfl rfl rfl (V_load rfl rfl ag_3 (CellAt.item rfl)) ?_ | refine GT_st rfl rfl rfl rfl (V_load rfl rfl ag_3 (CellAt.old (hbq.cell rfl) (noM _))) ?_ | refine GT_st rfl rfl rfl rfl (V_load rfl rfl ag_3 (CellAt.old (hbg.cell rfl) (noM _))) ?_
        refine GT_st rfl rfl rfl rfl (V_lss rfl rfl rfl) ?_
        refine GT_nil ?_
        first | refine GE_condNot rfl (fun h2 => ?_) (fun h2 => ?_) | refine GE_cond rfl (fun h2 => ?_) (fun h2 => ?_) | refine GE_condNotB rfl (fun h2 => ?_) (fun h2 => ?_) | refine GE_condB rfl (fun h2 => ?_) (fun h2 => ?_)
        · have htl : t < (fin p).toNat := (by omega); have hml2 := mixS_len p (vH l p f) i t; have hnb := mixN_bd8 hP (fun i k a b c => (vH_bd hP hf0 hf1 i k a b c).1) (Nat.le_of_lt hil) (t : Int); have hvb := vH_bd hP hf0 hf1 i ((t : Int) - bgn p i) hil (by omega) (by omega)
          refine GE_skip ?_
          refine GE_seq ?_
          refine GE_block ?_
          refine GE_slots (L' := [(0, _), (1, _), (4, _), (6, _), (7, _), (16, _), (17, _), (18, _)]) ⟨rfl, rfl, rfl, rfl, rfl, rfl, rfl, rfl, trivial⟩ ?_
          refine GE_drawn (.st 0 (.st 1 (.st 2 (.st 3 (.st 4 (.st 5 (.st 6 (.st 7 (.st 8 (.st 9 (.st 10 (.st 11 (.st 12 (.st 13 (.st 14 (.st 15 (.st 16 (.st 17 (.ld 18 [0, 1, 2, 3, 4, 5] (.ld 19 [0, 1, 2, 3, 4, 5] (.ld 20 [0, 1] (.st 21 (.ld 22 [] .nil))))))))))))))))))))))) [18, 19, 20, 22] (by decide +kernel) ?_
          refine GT_st rfl rfl rfl rfl (V_move rfl rfl) ?_
          refine GT_st rfl rfl rfl rfl (V_move rfl rfl) ?_
          refine GT_st rfl rfl rfl rfl (V_move rfl rfl) ?_
          refine GT_st rfl rfl rfl rfl (V_move rfl rfl) ?_
          refine GT_st rfl rfl rfl rfl (V_index rfl rfl rfl Tryd.underlying22 sz_35 (k := t) rfl htl rfl) ?_
          refine GT_st rfl rfl rfl rfl (V_loadN (vs := [_, _]) rfl rfl ag_35 sz_35 rfl (CellsAt.ownE hO2 eSam_len (by omega) (by rw [mixS_at htl]; rfl))) ?_
          first | refine GT_st rfl rfl rfl rfl (V_load rfl rfl ag_76 (CellAt.item rfl)) ?_ | refine GT_st rfl rfl rfl rfl (V_load rfl rfl ag_76 (CellAt.old (hbq.cell rfl) (noM _))) ?_ | refine GT_st rfl rfl rfl rfl (V_load rfl rfl ag_76 (CellAt.old (hbg.cell rfl) (noM _))) ?_
          refine GT_st rfl rfl rfl rfl (V_loadN (vs := [_, _, _, _, _, _, _, _, _, _]) rfl rfl ag_83 sz_83 rfl (CellsAt.item rfl)) ?_
          refine GT_st rfl rfl rfl rfl (V_move rfl rfl) ?_
          first | refine GT_st rfl rfl rfl rfl (V_field rfl rfl fo_83_2) ?_ | refine GT_st rfl rfl rfl rfl (V_fieldA rfl rfl fo_83_2) ?_
          first | refine GT_st rfl rfl rfl rfl (V_load rfl rfl ag_3 (CellAt.item rfl)) ?_ | refine GT_st rfl rfl rfl rfl (V_load rfl rfl ag_3 (CellAt.old (hbq.cell rfl) (noM _))) ?_ | refine GT_st rfl rfl rfl rfl (V_load rfl rfl ag_3 (CellAt.old (hbg.cell rfl) (noM _))) ?_
          refine GT_st rfl rfl rfl rfl (V_sub rfl rfl rfl (wrap_i64 (by omega))) ?_
          first | refine GT_st rfl rfl rfl rfl (V_field rfl rfl fo_83_0) ?_ | refine GT_st rfl rfl rfl rfl (V_fieldA rfl rfl fo_83_0) ?_
          first | refine GT_st rfl rfl rfl rfl (V_field rfl rfl fo_30_6) ?_ | refine GT_st rfl rfl rfl rfl (V_fieldA rfl rfl fo_30_6) ?_
          first | refine GT_st rfl rfl rfl rfl (V_load rfl rfl ag_2 (CellAt.item rfl)) ?_ | refine GT_st rfl rfl rfl rfl (V_load rfl rfl ag_2 (CellAt.old (hbq.cell rfl) (noM _))) ?_ | refine GT_st rfl rfl rfl rfl (V_load rfl rfl ag_2 (CellAt.old (hbg.cell rfl) (noM _))) ?_
          refine GT_st rfl rfl rfl rfl (V_move rfl rfl) ?_
          refine GT_st rfl rfl rfl rfl (V_mul rfl rfl rfl (wrap_i64 (by omega))) ?_
          refine GT_st rfl rfl rfl rfl (V_quo rfl rfl rfl (by omega) (wrap_i64 (by omega))) ?_
          refine GT_call0 rfl rfl rfl rfl rfl rfl rfl rfl rn_48 (fun w hw => C_sound (i := i) (k := (t : Int) - bgn p i) (lev := ((pt p i).lev * f).tdiv 1000) hil hP (by omega) (by omega) hlf.2.2.1 hlf.2.2.2 (h.sh hw) (hbg.sh hw)) (GR_cons rfl rfl rfl rfl (V_move rfl rfl) (GR_cons rfl rfl rfl rfl (V_move rfl rfl) (GR_cons rfl rfl rfl rfl (V_move rfl rfl) (GR_cons rfl rfl rfl rfl (V_move rfl rfl) (GR_cons rfl rfl rfl rfl (V_index rfl rfl rfl Tryd.underlying22 sz_35 (k := t) rfl htl rfl) (GR_cons rfl rfl rfl rfl (V_loadN (vs := [_, _]) rfl rfl ag_35 sz_35 rfl (CellsAt.ownE hO2 eSam_len (by omega) (by rw [mixS_at htl]; rfl))) (GR_nil))))))) ?_
          refine GT_call0 rfl rfl rfl rfl rfl rfl rfl rfl rn_51 (fun w hw => C_amounts (a := snd l (pt p i) ((t : Int) - bgn p i) (((pt p i).lev * f).tdiv 1000)) (Sam.bd.mono hvb.2 (by decide))) (GR_cons rfl rfl rfl rfl (V_move rfl rfl) (GR_cons rfl rfl rfl rfl (V_move rfl rfl) (GR_cons rfl rfl rfl rfl (V_move rfl rfl) (GR_cons rfl rfl rfl rfl (V_move rfl rfl) (GR_cons rfl rfl rfl rfl (V_index rfl rfl rfl Tryd.underlying22 sz_35 (k := t) rfl htl rfl) (GR_cons rfl rfl rfl rfl (V_loadN (vs := [_, _]) rfl rfl ag_35 sz_35 rfl (CellsAt.ownE hO2 eSam_len (by omega) (by rw [mixS_at htl]; rfl))) (GR_nil))))))) ?_
          refine GT_call0 rfl rfl rfl rfl rfl rfl rfl rfl rn_47 (fun w hw => C_sum (a := mixN p (vH l p f) i t) (b := vH l p f i ((t : Int) - bgn p i)) hnb (Sam.bd.mono hvb.1 (by decide))) (GR_cons rfl rfl rfl rfl (V_move rfl rfl) (GR_cons rfl rfl rfl rfl (V_move rfl rfl) (GR_nil))) ?_
          refine GT_st rfl rfl rfl rfl (V_index rfl rfl rfl Tryd.underlying22 sz_35 (k := t) rfl htl rfl) ?_
          refine GT_storeOwn (enc := eSam) (q := t) (xx := sad (mixN p (vH l p f) i t) (vH l p f i ((t : Int) - bgn p i))) rfl rfl rfl rfl rfl rfl rfl sz_35 hO2 eSam_len eSam_one (by omega) (by decide) (fun _ _ => GR_nil) (fun I3 hO3 => ?_)
          refine GT_nil ?_
          refine GE_inBlock ?_
          refine GE_slots (L' := [(0, _), (1, _), (4, _), (6, _), (7, _), (16, _), (17, _), (18, _)]) ⟨rfl, rfl, rfl, rfl, rfl, rfl, rfl, rfl, trivial⟩ ?_
          rw [mixS_set htl ht1 h2] at hO3
          refine GE_plain (.st 0 (.st 1 (.ld 2 [] .nil))) rfl ?_
          refine GT_st rfl rfl rfl rfl (V_move rfl rfl) ?_
          refine GT_st rfl rfl rfl rfl (V_add rfl rfl rfl (wrap_i64 (by omega))) ?_
          refine GT_ldv rfl rfl rfl rfl rfl (V_assign rfl rfl) (GR_nil) ?_
          refine GT_nil ?_
          exact GE_to (ih2 (t + 1, I3) ⟨by dsimp only; omega, by dsimp only; omega, hO3⟩ (by dsimp only; omega)) ⟨rfl, rfl, rfl, rfl, rfl, rfl, rfl, rfl, trivial⟩ (HS.cons rfl HS.last)
        · have het : (t : Int) = en p i := (by omega)
          refine GE_exit rfl ?_
          refine GE_inBlock ?_
          refine GE_slots (L' := [(0, _), (1, _), (4, _), (16, _), (17, _), (18, _)]) ⟨rfl, rfl, rfl, rfl, rfl, rfl, trivial⟩ ?_
          refine GE_plain (.st 0 (.ld 1 [] .nil)) rfl ?_
          refine GT_st rfl rfl rfl rfl (V_add rfl rfl rfl (wrap_i64 (by omega))) ?_
          refine GT_ldv rfl rfl rfl rfl rfl (V_move rfl rfl) (GR_nil) ?_
          refine GT_nil ?_
          exact GE_to (ih (i + 1, I2) ⟨by dsimp only; omega, by rw [← mixS_end, ← het]; exact hO2⟩ (by dsimp only; omega)) ⟨rfl, rfl, rfl, rfl, rfl, rfl, trivial⟩ HS.last
      · exact ⟨by dsimp only; omega, by dsimp only; omega, by dsimp only; rw [← hbn, mixS_begin]; exact hO⟩
    · obtain rfl : i = p.length := (by omega); rw [mixP_all] at hO
      refine GE_exit rfl ?_
      refine GE_seq ?_
      refine GE_slots (L' := [(4, _)]) ⟨rfl, trivial⟩ ?_
      refine GE_plain (.st 0 (.ld 1 [] (.st 2 (.st 3 .nil)))) rfl ?_
      refine GT_st rfl rfl rfl rfl (V_move rfl rfl) ?_
      refine GT_call0 rfl rfl rfl rfl rfl rfl rfl rfl rn_29 (fun w hw => C_CheckSamplesN (s := mix p (vH l p f)) (mix_len p (vH l p f)) (hO.rdH eSam_len hw)) (GR_nil) ?_
      refine GT_st rfl rfl rfl rfl (V_eql rfl rfl rfl) ?_
      refine GT_st rfl rfl rfl rfl (V_assign rfl rfl) ?_
      refine GT_nil ?_
      refine GE_ret Tryd.func58 rfl (fun w hw => ⟨?_, hw.nil⟩)
      rfl
  · exact ⟨Nat.zero_le _, by rw [mixP_zero]; exact Own.made (x := (⟨0, 0⟩ : Sam)) rfl (by unfold maxLen; omega)⟩
theorem C_gr1 {i : Int} (hb3 : BlkAt w b3 [.func (.func 58) #[] #[ptr bq 0]] 93) (hbq : BlkAt w bq [ptr g 0] 76) (hbg : BlkAt w g [.slice A l.length c, .slice A' p.length c', I (fin p)] 81) (hpl : RdL w 10 ePlc A' (plcs p p.length)) (h : Tks w A l) (hP : ProgOk l p) (hi0 : 0 ≤ i) (hi1 : i < 4000) :
    Con0 Tryd.prog 70 [I i, ptr b3 0] w (.bool (!okH l p (i + 1))) := by
  refine Ret_of (vs := [_, _]) hm none' Tryd.func70 rfl Tryd.ntmps70 rfl ?_
  dsimp only [slotsOf]
  refine GE_seq ?_
  refine GE_plain (.st 0 .nil) rfl ?_
  refine GT_st rfl rfl rfl rfl (V_assign rfl rfl) ?_
  refine GT_nil ?_
  refine GE_seq ?_
  refine GE_plain (.st 0 (.st 1 (.st 2 (.ld 3 [] (.st 4 (.st 5 .nil)))))) rfl ?_
  refine GT_st rfl rfl rfl rfl (V_load rfl rfl ag_93 (.old (hb3.cell rfl) (noM _))) ?_
  refine GT_st rfl rfl rfl rfl (V_move rfl rfl) ?_
  refine GT_st rfl rfl rfl rfl (V_add rfl rfl rfl (wrap_i64 (by omega))) ?_
  refine GT_call0 rfl rfl rfl rfl rfl rfl rfl rfl rn_58 (fun w hw => C_hold (f := i + 1) (hbq.sh hw) (hbg.sh hw) (hpl.sh hw) (h.sh hw) hP (by omega) (by omega)) (GR_nil) ?_
  first | refine GT_st rfl rfl rfl rfl (V_not rfl rfl) ?_ | refine GT_st rfl rfl rfl rfl (V_notB rfl rfl) ?_
  refine GT_st rfl rfl rfl rfl (V_assign rfl rfl) ?_
  refine GT_nil ?_
  refine GE_ret Tryd.func70 rfl (fun w hw => ⟨?_, hw.nil⟩)
  unfold okH; simp
theorem C_Search (hb3 : BlkAt w b3 [.func (.func 58) #[] #[ptr bq 0]] 93) (hbq : BlkAt w bq [ptr g 0] 76) (hbg : BlkAt w g [.slice A l.length c, .slice A' p.length c', I (fin p)] 81) (hpl : RdL w 10 ePlc A' (plcs p p.length)) (h : Tks w A l) (hP : ProgOk l p) :
    Con0 Tryd.prog 69 [I 4000, .func (.func 70) #[] #[ptr b3 0]] w (I (hd l p)) := by
  have hb := hd_bd l p
  refine Ret_of (vs := [_, _]) hm none' Tryd.func69 rfl Tryd.ntmps69 rfl ?_
  dsimp only [slotsOf]
  refine GE_seq ?_
  refine GE_plain (.st 0 .nil) rfl ?_
  refine GT_st rfl rfl rfl rfl (V_assign rfl rfl) ?_
  refine GT_nil ?_
  refine GE_seq ?_
  refine GE_plain (.st 0 (.st 1 (.st 2 .nil))) rfl ?_
  refine GT_st rfl rfl rfl rfl (V_move rfl rfl) ?_
  refine GT_st rfl rfl rfl rfl (V_assign rfl rfl) ?_
  refine GT_st rfl rfl rfl rfl (V_assign rfl rfl) ?_
  refine GT_nil ?_
  refine GE_seq ?_
  refine GE_block ?_
  refine GE_to (GE_loop (ι := Int × Int) (fun x => (x.2 - x.1).toNat) (fun x => [(1, .func (.func 70) #[] #[ptr b3 0]), (5, I x.1), (6, I x.2)]) (fun x => []) (fun x => 0 ≤ x.1 ∧ x.1 ≤ hd l p ∧ hd l p ≤ x.2 ∧ x.2 ≤ 4000) ?_ (0, 4000) ?_) ⟨rfl, rfl, rfl, trivial⟩ HS.nil
  · rintro ⟨lo, hi⟩ ⟨h0, h1, h2, h3⟩ ih; dsimp only at h0 h1 h2 h3 ih ⊢
    refine GE_seq ?_
    refine GE_seq ?_
    refine GE_plain (.st 0 (.st 1 (.st 2 .nil))) rfl ?_
    refine GT_st rfl rfl rfl rfl (V_move rfl rfl) ?_
    refine GT_st rfl rfl rfl rfl (V_move rfl rfl) ?_
    refine GT_st rfl rfl rfl rfl (V_lss rfl rfl rfl) ?_
    refine GT_nil ?_
    first | refine GE_condNot rfl (fun q1 => ?_) (fun q1 => ?_) | refine GE_cond rfl (fun q1 => ?_) (fun q1 => ?_) | refine GE_condNotB rfl (fun q1 => ?_) (fun q1 => ?_) | refine GE_condB rfl (fun q1 => ?_) (fun q1 => ?_)
    · skip
      refine GE_skip ?_
      refine GE_block ?_
      refine GE_seq ?_
      refine GE_plain (.st 0 (.st 1 (.st 2 (.st 3 (.st 4 (.st 5 (.st 6 .nil))))))) rfl ?_
      refine GT_st rfl rfl rfl rfl (V_move rfl rfl) ?_
      refine GT_st rfl rfl rfl rfl (V_move rfl rfl) ?_
      refine GT_st rfl rfl rfl rfl (V_add rfl rfl rfl (wrap_i64 (by omega))) ?_
      refine GT_st rfl rfl rfl rfl (V_convII rfl rfl (by rw [Tryd.underlying3]; rfl) Tryd.underlying113 (wrap_u64 (by omega))) ?_
      refine GT_st rfl rfl rfl rfl (V_shr (s := 1) (d := 2) rfl rfl rfl (by decide) (by decide)) ?_
      refine GT_st rfl rfl rfl rfl (V_convII rfl rfl (by rw [Tryd.underlying113]; rfl) Tryd.underlying3 (wrap_i64 (by omega))) ?_
      refine GT_st rfl rfl rfl rfl (V_assign rfl rfl) ?_
      refine GT_nil ?_
      refine GE_seq ?_
      refine GE_slots (L' := [(1, _), (5, _), (6, _), (7, _)]) ⟨rfl, rfl, rfl, rfl, trivial⟩ ?_
      refine GE_plain (.st 0 (.st 1 (.ld 2 [] (.st 3 .nil)))) rfl ?_
      refine GT_st rfl rfl rfl rfl (V_move rfl rfl) ?_
      refine GT_st rfl rfl rfl rfl (V_move rfl rfl) ?_
      refine GT_call0 rfl rfl rfl rfl rfl rfl rfl rfl rn_70 (fun w hw => C_gr1 (i := (lo + hi) / 2) (hb3.sh hw) (hbq.sh hw) (hbg.sh hw) (hpl.sh hw) (h.sh hw) hP (by omega) (by omega)) (GR_nil) ?_
      first | refine GT_st rfl rfl rfl rfl (V_not rfl rfl) ?_ | refine GT_st rfl rfl rfl rfl (V_notB rfl rfl) ?_
      refine GT_nil ?_
      first | refine GE_condNot rfl (fun q2 => ?_) (fun q2 => ?_) | refine GE_cond rfl (fun q2 => ?_) (fun q2 => ?_) | refine GE_condNotB rfl (fun q2 => ?_) (fun q2 => ?_) | refine GE_condB rfl (fun q2 => ?_) (fun q2 => ?_)
      · have q2' : okH l p ((lo + hi) / 2 + 1) = true := (by simpa using q2)
        refine GE_slots (L' := [(1, _), (6, _), (7, _)]) ⟨rfl, rfl, rfl, trivial⟩ ?_
        refine GE_plain (.st 0 (.st 1 (.st 2 .nil))) rfl ?_
        refine GT_st rfl rfl rfl rfl (V_move rfl rfl) ?_
        refine GT_st rfl rfl rfl rfl (V_add rfl rfl rfl (wrap_i64 (by omega))) ?_
        refine GT_st rfl rfl rfl rfl (V_assign rfl rfl) ?_
        refine GT_nil ?_
        refine GE_inBlock ?_
        first
          | exact GE_to (ih ((lo + hi) / 2 + 1, hi) ⟨by dsimp only; omega, by dsimp only; exact (hd_iff hP (by omega) (by omega)).1 q2', by dsimp only; omega, by dsimp only; omega⟩ (by dsimp only; omega)) ⟨rfl, rfl, rfl, trivial⟩ HS.nil
          | exact GE_to (ih (lo, (lo + hi) / 2) ⟨by dsimp only; omega, by dsimp only; omega, by dsimp only; have := mt (hd_iff (f := (lo + hi) / 2 + 1) hP (by omega) (by omega)).2 (by rw [q2']; decide); omega, by dsimp only; omega⟩ (by dsimp only; omega)) ⟨rfl, rfl, rfl, trivial⟩ HS.nil
      · have q2' : okH l p ((lo + hi) / 2 + 1) = false := (by simpa using q2)
        refine GE_slots (L' := [(1, _), (5, _), (7, _)]) ⟨rfl, rfl, rfl, trivial⟩ ?_
        refine GE_plain (.st 0 (.st 1 .nil)) rfl ?_
        refine GT_st rfl rfl rfl rfl (V_move rfl rfl) ?_
        refine GT_st rfl rfl rfl rfl (V_assign rfl rfl) ?_
        refine GT_nil ?_
        refine GE_inBlock ?_
        first
          | exact GE_to (ih ((lo + hi) / 2 + 1, hi) ⟨by dsimp only; omega, by dsimp only; exact (hd_iff hP (by omega) (by omega)).1 q2', by dsimp only; omega, by dsimp only; omega⟩ (by dsimp only; omega)) ⟨rfl, rfl, rfl, trivial⟩ HS.nil
          | exact GE_to (ih (lo, (lo + hi) / 2) ⟨by dsimp only; omega, by dsimp only; omega, by dsimp only; have := mt (hd_iff (f := (lo + hi) / 2 + 1) hP (by omega) (by omega)).2 (by rw [q2']; decide); omega, by dsimp only; omega⟩ (by dsimp only; omega)) ⟨rfl, rfl, rfl, trivial⟩ HS.nil
    · skip
      refine GE_exit rfl ?_
      refine GE_seq ?_
      refine GE_slots (L' := [(5, _)]) ⟨rfl, trivial⟩ ?_
      refine GE_plain (.st 0 (.st 1 .nil)) rfl ?_
      refine GT_st rfl rfl rfl rfl (V_move rfl rfl) ?_
      refine GT_st rfl rfl rfl rfl (V_assign rfl rfl) ?_
      refine GT_nil ?_
      refine GE_ret Tryd.func69 rfl (fun w hw => ⟨?_, hw.nil⟩)
      exact congrArg I (by omega)
  · exact ⟨by dsimp only; omega, by dsimp only; omega, by dsimp only; omega, by dsimp only; omega⟩
theorem C_greatest (hbq : BlkAt w bq [ptr g 0] 76) (hbg : BlkAt w g [.slice A l.length c, .slice A' p.length c', I (fin p)] 81) (hpl : RdL w 10 ePlc A' (plcs p p.length)) (h : Tks w A l) (hP : ProgOk l p) :
    Con0 Tryd.prog 57 [I 4000, .func (.func 58) #[] #[ptr bq 0]] w (I (hd l p)) := by
  refine Ret_of (vs := [_, _]) hm none' Tryd.func57 rfl Tryd.ntmps57 rfl ?_
  dsimp only [slotsOf]
  refine GE_seq ?_
  refine GE_plain (.ld 0 [] (.st 1 .nil)) rfl ?_
  refine GT_box (z := [_]) rfl rfl rfl rfl rfl rfl rfl (fun _ => GR_nil) (fun b3 => ?_)
  refine GT_st rfl rfl rfl rfl (V_assign rfl rfl) ?_
  refine GT_nil ?_
  refine GE_seq ?_
  refine GE_plain (.st 0 (.st 1 (.ld 2 [] (.st 3 .nil)))) rfl ?_
  refine GT_st rfl rfl rfl rfl (V_move rfl rfl) ?_
  refine GT_st rfl rfl rfl rfl (V_makeFunc rfl rfl rfl) ?_
  refine GT_call0 rfl rfl rfl rfl rfl rfl rfl rfl rn_69 (fun w hw => C_Search (BlkAt.of hw) (hbq.sh hw) (hbg.sh hw) (hpl.sh hw) (h.sh hw) hP) (GR_nil) ?_
  refine GT_st rfl rfl rfl rfl (V_assign rfl rfl) ?_
  refine GT_nil ?_
  refine GE_ret Tryd.func57 rfl (fun w hw => ⟨?_, hw.nil⟩)
  rfl
theorem C_Headroom (h : Tks w A l) (hp : RdL w 7 ePrt A2 p) : Con0 Tryd.prog 34 [.slice A l.length c, .slice A2 p.length c2] w (.tuple #[I (hdV l p), I (gErr l p)]) := by
  by_cases hg : gErr l p = 0
  · have hP := gErr_zero.1 hg
    refine Ret_of (vs := [_, _]) hm none' Tryd.func34 rfl Tryd.ntmps34 rfl ?_
    dsimp only [slotsOf]
    refine GE_seq ?_
    refine GE_plain (.st 0 (.st 1 .nil)) rfl ?_
    refine GT_st rfl rfl rfl rfl (V_assign rfl rfl) ?_
    refine GT_st rfl rfl rfl rfl (V_assign rfl rfl) ?_
    refine GT_nil ?_
    refine GE_seq ?_
    refine GE_plain (.st 0 (.st 1 (.ld 2 [] (.st 3 (.st 4 (.st 5 (.ld 6 [] (.ld 7 [] (.st 8 .nil))))))))) rfl ?_
    refine GT_st rfl rfl rfl rfl (V_move rfl rfl) ?_
    refine GT_st rfl rfl rfl rfl (V_move rfl rfl) ?_
    refine GT_call rfl rfl rfl rfl rfl rfl rfl rfl rn_46 (fun w hw => C_new_ok (h.sh hw) (hp.sh hw) hg) (fun _ _ => GR_nil) (fun y hy => ?_)
    refine GT_st rfl rfl rfl rfl (V_move rfl rfl) ?_
    refine GT_st rfl rfl rfl rfl (V_extract rfl rfl rfl) ?_
    refine GT_st rfl rfl rfl rfl (V_extract rfl rfl rfl) ?_
    refine GT_alloc rfl rfl rfl rfl rfl zc_76 (fun _ => GR_nil) (fun b6 => ?_)
    refine GT_store (vs := [_]) (l' := [_]) rfl rfl rfl rfl rfl rfl rfl sz_76 rfl rfl (Nat.le_of_ble_eq_true rfl) rfl (GR_nil) ?_
    refine GT_st rfl rfl rfl rfl (V_assign rfl rfl) ?_
    refine GT_nil ?_
    refine GE_seq ?_
    refine GE_seq ?_
    refine GE_slots (L' := [(6, _), (7, _)]) ⟨rfl, rfl, trivial⟩ ?_
    refine GE_plain (.st 0 (.st 1 .nil)) rfl ?_
    refine GT_st rfl rfl rfl rfl (V_move rfl rfl) ?_
    refine GT_st rfl rfl rfl rfl (V_isF (V_neq rfl rfl rfl) (by decide)) ?_
    refine GT_nil ?_
    refine GE_cond_f rfl ?_
    refine GE_skip ?_
    refine GE_seq ?_
    refine GE_plain (.st 0 (.ld 1 [] (.st 2 (.st 3 .nil)))) rfl ?_
    refine GT_st rfl rfl rfl rfl (V_makeFunc rfl rfl rfl) ?_
    refine GT_call0 rfl rfl rfl rfl rfl rfl rfl rfl rn_57 (fun w hw => C_greatest (BlkAt.of hw) (BlkAt.of hw) (hy.rdH ePlc_len hw) (h.sh hw) hP) (GR_nil) ?_
    refine GT_st rfl rfl rfl rfl (V_assign rfl rfl) ?_
    refine GT_st rfl rfl rfl rfl (V_assign rfl rfl) ?_
    refine GT_nil ?_
    refine GE_ret Tryd.func34 ⟨_, _, rfl, rfl, rfl⟩ (fun w hw => ⟨?_, hw.nil⟩)
    rw [hdV, if_pos hg, hg]
  · skip
    refine Ret_of (vs := [_, _]) hm none' Tryd.func34 rfl Tryd.ntmps34 rfl ?_
    dsimp only [slotsOf]
    refine GE_seq ?_
    refine GE_plain (.st 0 (.st 1 .nil)) rfl ?_
    refine GT_st rfl rfl rfl rfl (V_assign rfl rfl) ?_
    refine GT_st rfl rfl rfl rfl (V_assign rfl rfl) ?_
    refine GT_nil ?_
    refine GE_seq ?_
    refine GE_plain (.st 0 (.st 1 (.ld 2 [] (.st 3 (.st 4 (.st 5 (.ld 6 [] (.ld 7 [] (.st 8 .nil))))))))) rfl ?_
    refine GT_st rfl rfl rfl rfl (V_move rfl rfl) ?_
    refine GT_st rfl rfl rfl rfl (V_move rfl rfl) ?_
    refine GT_call0 rfl rfl rfl rfl rfl rfl rfl rfl rn_46 (fun w hw => C_new_bad (h.sh hw) (hp.sh hw) hg) (GR_nil) ?_
    refine GT_st rfl rfl rfl rfl (V_move rfl rfl) ?_
    refine GT_st rfl rfl rfl rfl (V_extract rfl rfl rfl) ?_
    refine GT_st rfl rfl rfl rfl (V_extract rfl rfl rfl) ?_
    refine GT_alloc rfl rfl rfl rfl rfl zc_76 (fun _ => GR_nil) (fun b6 => ?_)
    refine GT_store (vs := [_]) (l' := [_]) rfl rfl rfl rfl rfl rfl rfl sz_76 rfl rfl (Nat.le_of_ble_eq_true rfl) rfl (GR_nil) ?_
    refine GT_st rfl rfl rfl rfl (V_assign rfl rfl) ?_
    refine GT_nil ?_
    refine GE_seq ?_
    refine GE_seq ?_
    refine GE_slots (L' := [(6, _), (7, _)]) ⟨rfl, rfl, trivial⟩ ?_
    refine GE_plain (.st 0 (.st 1 .nil)) rfl ?_
    refine GT_st rfl rfl rfl rfl (V_move rfl rfl) ?_
    refine GT_st rfl rfl rfl rfl (V_isT (V_neq rfl rfl rfl) hg) ?_
    refine GT_nil ?_
    refine GE_cond_t rfl ?_
    refine GE_seq ?_
    refine GE_plain (.st 0 (.st 1 (.st 2 .nil))) rfl ?_
    refine GT_st rfl rfl rfl rfl (V_move rfl rfl) ?_
    refine GT_st rfl rfl rfl rfl (V_assign rfl rfl) ?_
    refine GT_st rfl rfl rfl rfl (V_assign rfl rfl) ?_
    refine GT_nil ?_
    refine GE_ret Tryd.func34 ⟨_, _, rfl, rfl, rfl⟩ (fun w hw => ⟨?_, hw.nil⟩)
    rw [hdV, if_neg hg]; rfl
theorem C_rLoud {x : Prt} {s k lev : Int} (h : PrtOk l x) (hs : -32767 ≤ s ∧ s ≤ 32767) (h0 : 0 ≤ k) (h1 : k < lng x) (h2 : 0 ≤ lev) (h3 : lev ≤ 16000) (hlx : lng x ≤ 4096) :
    Con0 Tryd.prog 74 [I s, .agg #[I x.tk, I x.fr, I x.to, I x.gap, I x.inn, I x.out, I x.lev], I k, I lev] w (I (ld s x k lev)) := by
  have hu := up_bd h h0
  have hd := dn_bd h h1
  have hin := h.inn
  have hout := h.out
  have hD := gnD_pos h
  have m1 := mul_bd (amt_nonneg s) (A := 32767) (by unfold amt; omega) h2 h3
  have m2 := mul_bd m1.1 m1.2 (b := up x k) (B := 1001) (by omega) (by omega)
  have m3 := mul_bd m2.1 m2.2 (b := dn x k) (B := 1001) (by omega) (by omega)
  have e1 : amt (s * lev) = amt s * lev := amt_mul h2
  have e2 : amt (s * lev * up x k) = amt s * lev * up x k := by rw [amt_mul (by omega), e1]
  have e3 : amt (s * lev * up x k * dn x k) = amt s * lev * up x k * dn x k := by rw [amt_mul (by omega), e2]
  rw [← e1] at m1; rw [← e2] at m2; rw [← e3] at m3
  have hq : amt ((s * lev * up x k * dn x k).tdiv (gnD x)) ≤ amt (s * lev * up x k * dn x k) := by
    have := tdiv_bd (a := s * lev * up x k * dn x k) (d := gnD x) (c := 1000 * amt (s * lev * up x k * dn x k)) (by omega) (by have := amt_nonneg (s * lev * up x k * dn x k); omega) (by
      have h0 := amt_nonneg (s * lev * up x k * dn x k)
      have := Int.mul_le_mul_of_nonneg_left (show 1 ≤ gnD x by omega) (show 0 ≤ 1000 * amt (s * lev * up x k * dn x k) by omega)
      rw [Int.mul_one] at this
      exact this)
    omega
  unfold amt at m1 m2 m3 hq
  have eL : (s * lev * up x k * dn x k).tdiv (gnD x) = ld s x k lev := by unfold ld gnN; simp only [Int.mul_assoc]
  refine Ret_of (vs := [_, _, _, _]) hm none' Tryd.func74 rfl Tryd.ntmps74 rfl ?_
  dsimp only [slotsOf]
  refine GE_seq ?_
  refine GE_plain (.ld 0 [] (.st 1 .nil)) rfl ?_
  refine GT_box (z := [_, _, _, _, _, _, _]) rfl rfl rfl rfl rfl rfl rfl (fun _ => GR_nil) (fun b5 => ?_)
  refine GT_st rfl rfl rfl rfl (V_assign rfl rfl) ?_
  refine GT_nil ?_
  refine GE_seq ?_
  refine GE_plain (.st 0 (.ld 1 [] (.st 2 .nil))) rfl ?_
  refine GT_st rfl rfl rfl rfl (V_loadN (vs := [_, _, _, _, _, _, _]) rfl rfl ag_30 sz_30 rfl (CellsAt.item rfl)) ?_
  refine GT_call0 rfl rfl rfl rfl rfl rfl rfl rfl rn_56 (fun w hw => C_rLong (by omega)) (GR_nil) ?_
  refine GT_st rfl rfl rfl rfl (V_assign rfl rfl) ?_
  refine GT_nil ?_
  refine GE_seq ?_
  refine GE_slots (L' := [(0, _), (2, _), (3, _), (5, _), (9, _)]) ⟨rfl, rfl, rfl, rfl, rfl, trivial⟩ ?_
  refine GE_drawn (.st 0 (.st 1 (.st 2 (.st 3 (.st 4 (.st 5 (.st 6 (.st 7 (.st 8 (.st 9 (.st 10 (.st 11 (.st 12 (.st 13 (.st 14 .nil))))))))))))))) [] (by decide +kernel) ?_
  refine GT_st rfl rfl rfl rfl (V_move rfl rfl) ?_
  refine GT_st rfl rfl rfl rfl (V_add rfl rfl rfl (wrap_i64 (by omega))) ?_
  first | refine GT_st rfl rfl rfl rfl (V_field rfl rfl fo_30_4) ?_ | refine GT_st rfl rfl rfl rfl (V_fieldA rfl rfl fo_30_4) ?_
  refine GT_st rfl rfl rfl rfl (V_load rfl rfl ag_3 (CellAt.item rfl)) ?_
  refine GT_st rfl rfl rfl rfl (V_add rfl rfl rfl (wrap_i64 (by omega))) ?_
  refine GT_st rfl rfl rfl rfl (V_min rfl rfl rfl) ?_
  refine GT_st rfl rfl rfl rfl (V_move rfl rfl) ?_
  refine GT_st rfl rfl rfl rfl (V_move rfl rfl) ?_
  refine GT_st rfl rfl rfl rfl (V_sub rfl rfl rfl (wrap_i64 (by omega))) ?_
  first | refine GT_st rfl rfl rfl rfl (V_field rfl rfl fo_30_5) ?_ | refine GT_st rfl rfl rfl rfl (V_fieldA rfl rfl fo_30_5) ?_
  refine GT_st rfl rfl rfl rfl (V_load rfl rfl ag_3 (CellAt.item rfl)) ?_
  refine GT_st rfl rfl rfl rfl (V_add rfl rfl rfl (wrap_i64 (by omega))) ?_
  refine GT_st rfl rfl rfl rfl (V_min rfl rfl rfl) ?_
  refine GT_st rfl rfl rfl rfl (V_assign rfl rfl) ?_
  refine GT_st rfl rfl rfl rfl (V_assign rfl rfl) ?_
  refine GT_nil ?_
  refine GE_seq ?_
  refine GE_slots (L' := [(0, _), (3, _), (5, _), (10, _), (11, _)]) ⟨rfl, rfl, rfl, rfl, rfl, trivial⟩ ?_
  refine GE_plain (.st 0 (.st 1 (.st 2 (.st 3 (.st 4 (.st 5 (.st 6 (.st 7 (.st 8 (.st 9 (.st 10 (.st 11 (.st 12 (.st 13 (.st 14 (.st 15 (.st 16 .nil))))))))))))))))) rfl ?_
  refine GT_st rfl rfl rfl rfl (V_move rfl rfl) ?_
  refine GT_st rfl rfl rfl rfl (V_move rfl rfl) ?_
  refine GT_st rfl rfl rfl rfl (V_mul rfl rfl rfl (wrap_i64 (by omega))) ?_
  refine GT_st rfl rfl rfl rfl (V_move rfl rfl) ?_
  refine GT_st rfl rfl rfl rfl (V_mul rfl rfl rfl ((wrap_i64 (by rw [show min (k + 1) (x.inn + 1) = up x k by unfold up; omega]; omega)).trans (show _ = s * lev * up x k by rw [show min (k + 1) (x.inn + 1) = up x k by unfold up; omega]))) ?_
  refine GT_st rfl rfl rfl rfl (V_move rfl rfl) ?_
  refine GT_st rfl rfl rfl rfl (V_mul rfl rfl rfl ((wrap_i64 (by rw [show min (lng x - k) (x.out + 1) = dn x k by unfold dn; omega]; omega)).trans (show _ = s * lev * up x k * dn x k by rw [show min (lng x - k) (x.out + 1) = dn x k by unfold dn; omega]))) ?_
  first | refine GT_st rfl rfl rfl rfl (V_field rfl rfl fo_30_4) ?_ | refine GT_st rfl rfl rfl rfl (V_fieldA rfl rfl fo_30_4) ?_
  refine GT_st rfl rfl rfl rfl (V_load rfl rfl ag_3 (CellAt.item rfl)) ?_
  refine GT_st rfl rfl rfl rfl (V_add rfl rfl rfl (wrap_i64 (by omega))) ?_
  refine GT_st rfl rfl rfl rfl (V_mul rfl rfl rfl (wrap_i64 (by omega))) ?_
  first | refine GT_st rfl rfl rfl rfl (V_field rfl rfl fo_30_5) ?_ | refine GT_st rfl rfl rfl rfl (V_fieldA rfl rfl fo_30_5) ?_
  refine GT_st rfl rfl rfl rfl (V_load rfl rfl ag_3 (CellAt.item rfl)) ?_
  refine GT_st rfl rfl rfl rfl (V_add rfl rfl rfl (wrap_i64 (by omega))) ?_
  refine GT_st rfl rfl rfl rfl (V_mul rfl rfl rfl ((wrap_i64 (by unfold gnD at hD; omega)).trans (show _ = gnD x from rfl))) ?_
  refine GT_st rfl rfl rfl rfl (V_quo rfl rfl rfl (by omega) ((wrap_i64 (by omega)).trans eL)) ?_
  refine GT_st rfl rfl rfl rfl (V_assign rfl rfl) ?_
  refine GT_nil ?_
  refine GE_ret Tryd.func74 rfl (fun w hw => ⟨?_, hw.nil⟩)
  rfl
theorem C_rsound {x : Prt} {k lev : Int} (hl : TksOk l) (h : PrtOk l x) (ht : Tks w A l) (h0 : 0 ≤ k) (h1 : k < lng x) (h2 : 0 ≤ lev) (h3 : lev ≤ 16000) :
    Con0 Tryd.prog 64 [.slice A l.length c, .agg #[I x.tk, I x.fr, I x.to, I x.gap, I x.inn, I x.out, I x.lev], I k, I lev] w (.agg #[I (snd l x k lev).l, I (snd l x k lev).r]) := by
  obtain ⟨q1, q2, q3, q4⟩ := smp_ok hl h h0 h1
  have hdat := (ht.2 _ (getD_mem q2)).1
  have hfr := h.fr0
  have hfr1 := h.frto
  have hto := h.to1
  have htk := h.tk0
  have hlen : (tkOf l x).data.length ≤ 4096 := (tErr_zero.1 (hl.each _ (getD_mem q2))).1
  have hlx : lng x ≤ 4096 := by unfold lng; omega
  have hkl : k < x.to - x.fr := h1
  refine Ret_of (vs := [_, _, _, _]) hm none' Tryd.func64 rfl Tryd.ntmps64 rfl ?_
  dsimp only [slotsOf]
  refine GE_seq ?_
  refine GE_plain (.ld 0 [] (.ld 1 [] .nil)) rfl ?_
  refine GT_box (z := [_, _, _, _, _, _, _]) rfl rfl rfl rfl rfl rfl rfl (fun _ => GR_nil) (fun b5 => ?_)
  refine GT_alloc rfl rfl rfl rfl rfl zc_35 (fun _ => GR_nil) (fun b8 => ?_)
  refine GT_nil ?_
  refine GE_seq ?_
  refine GE_drawn (.st 0 (.st 1 (.st 2 (.st 3 (.st 4 (.st 5 (.st 6 (.st 7 (.st 8 (.st 9 (.st 10 (.st 11 (.ld 12 [0, 1, 2, 3, 4, 5, 6, 7, 8, 9, 10, 11] (.ld 13 [] .nil)))))))))))))) [12, 13] (by decide +kernel) ?_
  refine GT_st rfl rfl rfl rfl (V_move rfl rfl) ?_
  first | refine GT_st rfl rfl rfl rfl (V_field rfl rfl fo_30_0) ?_ | refine GT_st rfl rfl rfl rfl (V_fieldA rfl rfl fo_30_0) ?_
  refine GT_st rfl rfl rfl rfl (V_load rfl rfl ag_3 (CellAt.item rfl)) ?_
  refine GT_st rfl rfl rfl rfl (V_index rfl rfl rfl Tryd.underlying28 sz_27 (k := x.tk.toNat) (by omega) q2 (ht.1.isSome q2)) ?_
  first | refine GT_st rfl rfl rfl rfl (V_field rfl rfl fo_27_1) ?_ | refine GT_st rfl rfl rfl rfl (V_fieldA rfl rfl fo_27_1) ?_
  refine GT_st rfl rfl rfl rfl (V_load rfl rfl ag_22 (ht.1.at1 noM q2 rfl)) ?_
  first | refine GT_st rfl rfl rfl rfl (V_field rfl rfl fo_30_1) ?_ | refine GT_st rfl rfl rfl rfl (V_fieldA rfl rfl fo_30_1) ?_
  refine GT_st rfl rfl rfl rfl (V_load rfl rfl ag_3 (CellAt.item rfl)) ?_
  refine GT_st rfl rfl rfl rfl (V_move rfl rfl) ?_
  refine GT_st rfl rfl rfl rfl (V_add rfl rfl rfl (wrap_i64 (by omega))) ?_
  refine GT_st rfl rfl rfl rfl (V_index rfl rfl rfl Tryd.underlying22 sz_35 (k := (x.fr + k).toNat) (by omega) q1 (hdat.isSome q1)) ?_
  refine GT_st rfl rfl rfl rfl (V_loadN (vs := [_, _]) rfl rfl ag_35 sz_35 rfl (show CellsAt _ _ _ (eSam (smp l x k)) from hdat.ats noM q1)) ?_
  refine GT_alloc rfl rfl rfl rfl rfl zc_35 (fun _ => GR_cons rfl rfl rfl rfl (V_move rfl rfl) (GR_cons rfl rfl rfl rfl ((by first | exact V_field rfl rfl fo_30_0 | exact V_fieldA rfl rfl fo_30_0)) (GR_cons rfl rfl rfl rfl (V_load rfl rfl ag_3 (CellAt.item rfl)) (GR_cons rfl rfl rfl rfl (V_index rfl rfl rfl Tryd.underlying28 sz_27 (k := x.tk.toNat) (by omega) q2 (ht.1.isSome q2)) (GR_cons rfl rfl rfl rfl ((by first | exact V_field rfl rfl fo_27_1 | exact V_fieldA rfl rfl fo_27_1)) (GR_cons rfl rfl rfl rfl (V_load rfl rfl ag_22 (ht.1.at1 noM q2 rfl)) (GR_cons rfl rfl rfl rfl ((by first | exact V_field rfl rfl fo_30_1 | exact V_fieldA rfl rfl fo_30_1)) (GR_cons rfl rfl rfl rfl (V_load rfl rfl ag_3 (CellAt.item rfl)) (GR_cons rfl rfl rfl rfl (V_move rfl rfl) (GR_cons rfl rfl rfl rfl (V_add rfl rfl rfl (wrap_i64 (by omega))) (GR_cons rfl rfl rfl rfl (V_index rfl rfl rfl Tryd.underlying22 sz_35 (k := (x.fr + k).toNat) (by omega) q1 (hdat.isSome q1)) (GR_cons rfl rfl rfl rfl (V_loadN (vs := [_, _]) rfl rfl ag_35 sz_35 rfl (show CellsAt _ _ _ (eSam (smp l x k)) from hdat.ats noM q1)) (GR_nil))))))))))))) (fun b9 => ?_)
  refine GT_store (vs := [_, _]) (l' := [_, _]) rfl rfl rfl rfl rfl rfl rfl sz_35 rfl rfl (Nat.le_of_ble_eq_true rfl) rfl (GR_nil) ?_
  refine GT_nil ?_
  refine GE_seq ?_
  refine GE_slots (L' := [(2, _), (3, _), (5, _), (8, _), (9, _)]) ⟨rfl, rfl, rfl, rfl, rfl, trivial⟩ ?_
  refine GE_drawn (.st 0 (.st 1 (.st 2 (.st 3 (.st 4 (.st 6 (.st 7 (.st 8 (.st 9 (.st 10 (.ld 5 [6, 7, 8, 9, 10] (.ld 11 [] (.st 12 (.ld 13 [] .nil)))))))))))))) [5, 11, 13] (by decide +kernel) ?_
  first | refine GT_st rfl rfl rfl rfl (V_field rfl rfl fo_35_0) ?_ | refine GT_st rfl rfl rfl rfl (V_fieldA rfl rfl fo_35_0) ?_
  refine GT_st rfl rfl rfl rfl (V_load rfl rfl ag_2 (CellAt.item rfl)) ?_
  refine GT_st rfl rfl rfl rfl (V_loadN (vs := [_, _, _, _, _, _, _]) rfl rfl ag_30 sz_30 rfl (CellsAt.item rfl)) ?_
  refine GT_st rfl rfl rfl rfl (V_move rfl rfl) ?_
  refine GT_st rfl rfl rfl rfl (V_move rfl rfl) ?_
  first | refine GT_st rfl rfl rfl rfl (V_field rfl rfl fo_35_1) ?_ | refine GT_st rfl rfl rfl rfl (V_fieldA rfl rfl fo_35_1) ?_
  refine GT_st rfl rfl rfl rfl (V_load rfl rfl ag_2 (CellAt.item rfl)) ?_
  refine GT_st rfl rfl rfl rfl (V_loadN (vs := [_, _, _, _, _, _, _]) rfl rfl ag_30 sz_30 rfl (CellsAt.item rfl)) ?_
  refine GT_st rfl rfl rfl rfl (V_move rfl rfl) ?_
  refine GT_st rfl rfl rfl rfl (V_move rfl rfl) ?_
  refine GT_call0 rfl rfl rfl rfl rfl rfl rfl rfl rn_74 (fun w hw => C_rLoud h q3 h0 h1 h2 h3 hlx) (GR_cons rfl rfl rfl rfl ((by first | exact V_field rfl rfl fo_35_1 | exact V_fieldA rfl rfl fo_35_1)) (GR_cons rfl rfl rfl rfl (V_load rfl rfl ag_2 (CellAt.item rfl)) (GR_cons rfl rfl rfl rfl (V_loadN (vs := [_, _, _, _, _, _, _]) rfl rfl ag_30 sz_30 rfl (CellsAt.item rfl)) (GR_cons rfl rfl rfl rfl (V_move rfl rfl) (GR_cons rfl rfl rfl rfl (V_move rfl rfl) (GR_nil)))))) ?_
  refine GT_call0 rfl rfl rfl rfl rfl rfl rfl rfl rn_74 (fun w hw => C_rLoud h q4 h0 h1 h2 h3 hlx) (GR_nil) ?_
  refine GT_st rfl rfl rfl rfl (V_build (vs := [_, _]) rfl rfl zc_35 pl_35 sa_35 rfl) ?_
  refine GT_store (vs := [_, _]) (l' := [_, _]) rfl rfl rfl rfl rfl rfl rfl sz_35 rfl rfl (Nat.le_of_ble_eq_true rfl) rfl (GR_nil) ?_
  refine GT_nil ?_
  refine GE_ret Tryd.func64 ⟨_, rfl, fun w m => run_loadVar_agg (vs := [_, _]) ag_35 sz_35 rfl (fun j v hj => CellsAt.item rfl j v hj w m)⟩ (fun w hw => ⟨?_, hw.nil⟩)
  rfl
theorem src_get {j : Nat} {t : Int} (hj : j < (srcs p t p.length).length) : ∃ i, i < p.length ∧ (bgn p i ≤ t ∧ t < en p i) ∧ (srcs p t p.length).getD j default = src p t i ∧ (sndI p t p.length).getD j default = i := by
  have hl : j < (sndI p t p.length).length := by unfold srcs at hj; rwa [List.length_map] at hj
  have hm := sndI_mem (getD_mem hl)
  refine ⟨_, hm.1, hm.2, ?_, rfl⟩
  unfold srcs
  simp [List.getD, hl]
set_option maxRecDepth 10000 in
set_option maxHeartbeats 4000000 in
theorem C_rrender {f : Int} {am : Bool} (h : Tks w A l) (hp : RdL w 7 ePrt A2 p) (hP : ProgOk l p) (hf0 : 0 ≤ f) (hf1 : f ≤ 4000) :
    Con Tryd.prog 65 [.slice A l.length c, .slice A2 p.length c2, I f, .bool am] w (fun y : OI => Own 2 35 eSam (mix p (vG l p f am)) (.slice y.1 (fin p).toNat y.2.1) y.2.2)
      (fun y => .slice y.1 (fin p).toNat y.2.1) (fun y => y.2.2) := by
  have hG := gd_of hP
  have hfl := hP.fin
  have hfn := fin_nonneg hP
  have hpm := hP.most
  refine Ret_of (vs := [_, _, _, _]) hm none' Tryd.func65 rfl Tryd.ntmps65 rfl ?_
  dsimp only [slotsOf]
  refine GE_seq ?_
  refine GE_plain (.st 0 .nil) rfl ?_
  refine GT_st rfl rfl rfl rfl (V_assign rfl rfl) ?_
  refine GT_nil ?_
  refine GE_seq ?_
  refine GE_plain (.st 0 (.ld 1 [] (.st 2 (.st 3 (.st 4 (.st 5 (.st 6 .nil))))))) rfl ?_
  refine GT_st rfl rfl rfl rfl (V_move rfl rfl) ?_
  refine GT_call rfl rfl rfl rfl rfl rfl rfl rfl rn_59 (fun w hw => C_rstarts hG (hp.sh hw)) (fun _ _ => GR_nil) (fun y hy => ?_)
  refine GT_st rfl rfl rfl rfl (V_move rfl rfl) ?_
  refine GT_st rfl rfl rfl rfl (V_extract rfl rfl rfl) ?_
  refine GT_st rfl rfl rfl rfl (V_extract rfl rfl rfl) ?_
  refine GT_st rfl rfl rfl rfl (V_assign rfl rfl) ?_
  refine GT_st rfl rfl rfl rfl (V_assign rfl rfl) ?_
  refine GT_nil ?_
  refine GE_seq ?_
  refine GE_slots (L' := [(0, _), (1, _), (2, _), (3, _), (10, _)]) ⟨rfl, rfl, rfl, rfl, rfl, trivial⟩ ?_
  refine GE_plain (.st 0 (.ld 1 [] (.st 2 .nil))) rfl ?_
  refine GT_st rfl rfl rfl rfl (V_move rfl rfl) ?_
  refine GT_makeSlice rfl rfl rfl rfl rfl rfl rfl Tryd.underlying22 zc_35 sz_35 by_35 (nn := (fin p).toNat) ⟨by omega, by omega, rfl⟩ ⟨by omega, by omega⟩ (fun _ => GR_nil) (fun b23 => ?_)
  refine GT_st rfl rfl rfl rfl (V_assign rfl rfl) ?_
  refine GT_nil ?_
  refine GE_seq ?_
  refine GE_seq ?_
  refine GE_plain (.st 0 .nil) rfl ?_
  refine GT_st rfl rfl rfl rfl (V_assign rfl rfl) ?_
  refine GT_nil ?_
  refine GE_block ?_
  refine GE_to (GE_loop (ι := Nat × Items) (fun x => (fin p).toNat - x.1) (fun x => [(0, .slice A l.length c), (1, .slice A2 p.length c2), (2, I f), (3, .bool am), (10, I (fin p)), (11, .slice (some ⟨b23, 0, none⟩) (fin p).toNat (fin p).toNat), (12, I x.1)]) (fun x => x.2) (fun x => x.1 ≤ (fin p).toNat ∧ Own 2 35 eSam (outL p (vG l p f am) x.1 ⟨0, 0⟩) (.slice (some ⟨b23, 0, none⟩) (fin p).toNat (fin p).toNat) x.2) ?_ (0, [(b23, blk ((List.replicate (fin p).toNat [I 0, I 0]).flatten) 35)]) ?_) ⟨rfl, rfl, rfl, rfl, rfl, rfl, rfl, trivial⟩ (HS.cons rfl HS.nil)
  · rintro ⟨t, I1⟩ ⟨ht, hO⟩ ih; dsimp only at ht hO ih ⊢
    refine GE_seq ?_
    refine GE_seq ?_
    refine GE_plain (.st 0 (.st 1 (.st 2 .nil))) rfl ?_
    refine GT_st rfl rfl rfl rfl (V_move rfl rfl) ?_
    refine GT_st rfl rfl rfl rfl (V_move rfl rfl) ?_
    refine GT_st rfl rfl rfl rfl (V_lss rfl rfl rfl) ?_
    refine GT_nil ?_
    first | refine GE_condNot rfl (fun q1 => ?_) (fun q1 => ?_) | refine GE_cond rfl (fun q1 => ?_) (fun q1 => ?_) | refine GE_condNotB rfl (fun q1 => ?_) (fun q1 => ?_) | refine GE_condB rfl (fun q1 => ?_) (fun q1 => ?_)
    · have htF : t < (fin p).toNat := (by omega)
      refine GE_skip ?_
      refine GE_seq ?_
      refine GE_block ?_
      refine GE_seq ?_
      refine GE_plain (.st 0 (.st 1 (.ld 2 [] (.st 3 .nil)))) rfl ?_
      refine GT_st rfl rfl rfl rfl (V_move rfl rfl) ?_
      refine GT_st rfl rfl rfl rfl (V_move rfl rfl) ?_
      refine GT_call rfl rfl rfl rfl rfl rfl rfl rfl rn_63 (fun w hw => C_rsources (t := (t : Int)) hG (hp.sh hw) ⟨by omega, by omega⟩) (fun _ _ => GR_nil) (fun z hz => ?_)
      refine GT_st rfl rfl rfl rfl (V_assign rfl rfl) ?_
      refine GT_nil ?_
      refine GE_seq ?_
      refine GE_slots (L' := [(0, _), (1, _), (2, _), (3, _), (10, _), (11, _), (12, _), (13, _)]) ⟨rfl, rfl, rfl, rfl, rfl, rfl, rfl, rfl, trivial⟩ ?_
      refine GE_plain (.st 0 .nil) rfl ?_
      refine GT_st rfl rfl rfl rfl (V_assign rfl rfl) ?_
      refine GT_nil ?_
      refine GE_block ?_
      refine GE_to (GE_loop (ι := Nat × Items) (fun x => (srcs p t p.length).length - x.1) (fun x => [(0, .slice A l.length c), (1, .slice A2 p.length c2), (2, I f), (3, .bool am), (10, I (fin p)), (11, .slice (some ⟨b23, 0, none⟩) (fin p).toNat (fin p).toNat), (12, I t), (13, .slice z.1 (srcs p t p.length).length z.2.1), (14, I x.1)]) (fun x => z.2.2 ++ x.2) (fun x => x.1 ≤ (srcs p t p.length).length ∧ Own 2 35 eSam (outL p (vG l p f am) t (sumI p (vG l p f am) t ((sndI p t p.length).take x.1))) (.slice (some ⟨b23, 0, none⟩) (fin p).toNat (fin p).toNat) x.2) ?_ (0, I1) ?_) ⟨rfl, rfl, rfl, rfl, rfl, rfl, rfl, rfl, rfl, trivial⟩ (HS.chunk HS.last)
      · rintro ⟨j, I2⟩ ⟨hj, hO2⟩ ih2; dsimp only at hj hO2 ih2 ⊢; have hsl : (srcs p t p.length).length = (sndI p t p.length).length := (by unfold srcs; rw [List.length_map]); have hsn := sndI_len p t p.length
        refine GE_seq ?_
        refine GE_seq ?_
        refine GE_plain (.st 0 (.st 1 (.st 2 (.st 3 .nil)))) rfl ?_
        refine GT_st rfl rfl rfl rfl (V_move rfl rfl) ?_
        refine GT_st rfl rfl rfl rfl (V_move rfl rfl) ?_
        refine GT_st rfl rfl rfl rfl (V_len rfl Tryd.underlying66 rfl) ?_
        refine GT_st rfl rfl rfl rfl (V_lss rfl rfl rfl) ?_
        refine GT_nil ?_
        first | refine GE_condNot rfl (fun q2 => ?_) (fun q2 => ?_) | refine GE_cond rfl (fun q2 => ?_) (fun q2 => ?_) | refine GE_condNotB rfl (fun q2 => ?_) (fun q2 => ?_) | refine GE_condB rfl (fun q2 => ?_) (fun q2 => ?_)
        · have hjl : j < (srcs p t p.length).length := (by omega); obtain ⟨i, hil, hcd, hsj, hsi⟩ := src_get hjl; have hbb := gd_bgn hG hil; have hpr := gd_prt hG hil; have hlf := lev_f (hP.each i hil) hf0 hf1; have hvb := vG_bd (am := am) hP hf0 hf1 i ((t : Int) - bgn p i) hil (by omega) (by omega); have hsb := (vH_bd hP hf0 hf1 i ((t : Int) - bgn p i) hil (by omega) (by omega)).2; have hzb := sumI_bd (p := p) (v := vG l p f am) (t := (t : Int)) (is := sndI p t p.length) (fun i hi => by have hm := sndI_mem hi; exact vG_bd hP hf0 hf1 i _ hm.1 (by omega) (by have : en p i = bgn p i + lng (pt p i) := rfl; omega)) j (by omega); unfold Sam.bd at hvb hsb hzb; have hol := outL_len p (vG l p f am) (t : Int) (sumI p (vG l p f am) t ((sndI p t p.length).take j))
          refine GE_skip ?_
          refine GE_seq ?_
          refine GE_block ?_
          refine GE_seq ?_
          refine GE_slots (L' := [(0, _), (1, _), (2, _), (3, _), (10, _), (11, _), (12, _), (13, _), (14, _)]) ⟨rfl, rfl, rfl, rfl, rfl, rfl, rfl, rfl, rfl, trivial⟩ ?_
          refine GE_plain (.st 0 (.st 1 (.st 2 (.st 3 (.st 4 (.st 5 (.st 6 (.st 7 (.ld 8 [] (.ld 9 [] .nil)))))))))) rfl ?_
          refine GT_st rfl rfl rfl rfl (V_move rfl rfl) ?_
          refine GT_st rfl rfl rfl rfl (V_move rfl rfl) ?_
          refine GT_st rfl rfl rfl rfl (V_move rfl rfl) ?_
          refine GT_st rfl rfl rfl rfl (V_index rfl rfl rfl Tryd.underlying66 sz_70 (k := j) rfl hjl (hz.isSome hjl)) ?_
          first | refine GT_st rfl rfl rfl rfl (V_field rfl rfl fo_70_0) ?_ | refine GT_st rfl rfl rfl rfl (V_fieldA rfl rfl fo_70_0) ?_
          refine GT_st rfl rfl rfl rfl (V_load rfl rfl ag_3 (CellAt.own0 hz eSrc_len hjl (by rw [hsj]; exact (show _ = some (I (i : Int)) from rfl)))) ?_
          refine GT_st rfl rfl rfl rfl (V_index rfl rfl rfl Tryd.underlying31 sz_30 (k := i) rfl hil (hp.isSome hil)) ?_
          refine GT_st rfl rfl rfl rfl (V_loadN (vs := [_, _, _, _, _, _, _]) rfl rfl ag_30 sz_30 rfl (show CellsAt _ _ _ (ePrt (pt p i)) from hp.ats noM hil)) ?_
          refine GT_alloc rfl rfl rfl rfl rfl zc_30 (fun _ => GR_nil) (fun b15 => ?_)
          refine GT_store (vs := [_, _, _, _, _, _, _]) (l' := [_, _, _, _, _, _, _]) rfl rfl rfl rfl rfl rfl rfl sz_30 rfl rfl (Nat.le_of_ble_eq_true rfl) rfl (GR_nil) ?_
          refine GT_nil ?_
          refine GE_cut (ι := Nat) (fun b16 => [(0, .slice A l.length c), (1, .slice A2 p.length c2), (2, I f), (3, .bool am), (10, I (fin p)), (11, .slice (some ⟨b23, 0, none⟩) (fin p).toNat (fin p).toNat), (12, I t), (13, .slice z.1 (srcs p t p.length).length z.2.1), (14, I j), (16, ptr b16 0)]) (fun b16 => (b16, blk [I (snd l (pt p i) ((t : Int) - bgn p i) (((pt p i).lev * f).tdiv 1000)).l, I (snd l (pt p i) ((t : Int) - bgn p i) (((pt p i).lev * f).tdiv 1000)).r] 35) :: (z.2.2 ++ I2)) (fun b16 => True) ?_ (fun hcut0 => ?_)
          · intro b16 _
            refine GE_cut (ι := Unit) (fun _ => [(0, .slice A l.length c), (1, .slice A2 p.length c2), (2, I f), (3, .bool am), (10, I (fin p)), (11, .slice (some ⟨b23, 0, none⟩) (fin p).toNat (fin p).toNat), (12, I t), (13, .slice z.1 (srcs p t p.length).length z.2.1), (14, I j), (16, ptr b16 0)]) (fun _ => (b16, blk [I (vG l p f am i ((t : Int) - bgn p i)).l, I (vG l p f am i ((t : Int) - bgn p i)).r] 35) :: (z.2.2 ++ I2)) (fun _ => True) ?_ (fun hcut => ?_)
            · intro _ _
              refine GE_seq ?_
              refine GE_drawn (.st 0 (.st 1 (.st 2 (.st 3 (.st 4 (.st 5 (.st 6 (.st 7 (.st 8 (.st 9 (.ld 10 [] .nil))))))))))) [10] (by decide +kernel) ?_
              refine GT_st rfl rfl rfl rfl (V_move rfl rfl) ?_
              refine GT_st rfl rfl rfl rfl (V_move rfl rfl) ?_
              refine GT_st rfl rfl rfl rfl (V_index rfl rfl rfl Tryd.underlying22 sz_35 (k := t) rfl htF rfl) ?_
              first | refine GT_st rfl rfl rfl rfl (V_field rfl rfl fo_35_0) ?_ | refine GT_st rfl rfl rfl rfl (V_fieldA rfl rfl fo_35_0) ?_
              refine GT_st rfl rfl rfl rfl (V_load rfl rfl ag_2 (CellAt.own (j := 0) hO2 eSam_len (by omega) (by rw [outL_at htF]; rfl))) ?_
              first | refine GT_st rfl rfl rfl rfl (V_field rfl rfl fo_35_0) ?_ | refine GT_st rfl rfl rfl rfl (V_fieldA rfl rfl fo_35_0) ?_
              refine GT_st rfl rfl rfl rfl (V_load rfl rfl ag_2 (CellAt.item rfl)) ?_
              refine GT_st rfl rfl rfl rfl (V_add rfl rfl rfl (wrap_i64 (by omega))) ?_
              refine GT_st rfl rfl rfl rfl (V_index rfl rfl rfl Tryd.underlying22 sz_35 (k := t) rfl htF rfl) ?_
              first | refine GT_st rfl rfl rfl rfl (V_field rfl rfl fo_35_0) ?_ | refine GT_st rfl rfl rfl rfl (V_fieldA rfl rfl fo_35_0) ?_
              refine GT_storeF (enc := eSam) (q := t) (j := 0) (xx := ⟨(sumI p (vG l p f am) t ((sndI p t p.length).take j)).l + (vG l p f am i ((t : Int) - bgn p i)).l, (sumI p (vG l p f am) t ((sndI p t p.length).take j)).r⟩) rfl rfl rfl rfl rfl rfl rfl sz_2 hO2 eSam_len rfl (by omega) (by decide) (by rw [outL_at htF]; rfl) (fun _ _ => GR_nil) (fun I3 hO3 => ?_)
              refine GT_nil ?_
              refine GE_slots (L' := [(0, _), (1, _), (2, _), (3, _), (10, _), (11, _), (12, _), (13, _), (14, _), (16, _)]) ⟨rfl, rfl, rfl, rfl, rfl, rfl, rfl, rfl, rfl, rfl, trivial⟩ ?_
              rw [outL_set htF] at hO3; have hol3 := outL_len p (vG l p f am) (t : Int) ⟨(sumI p (vG l p f am) t ((sndI p t p.length).take j)).l + (vG l p f am i ((t : Int) - bgn p i)).l, (sumI p (vG l p f am) t ((sndI p t p.length).take j)).r⟩
              refine GE_drawn (.st 0 (.st 1 (.st 2 (.st 3 (.st 4 (.st 5 (.st 6 (.st 7 (.st 8 (.st 9 (.ld 10 [] .nil))))))))))) [10] (by decide +kernel) ?_
              refine GT_st rfl rfl rfl rfl (V_move rfl rfl) ?_
              refine GT_st rfl rfl rfl rfl (V_move rfl rfl) ?_
              refine GT_st rfl rfl rfl rfl (V_index rfl rfl rfl Tryd.underlying22 sz_35 (k := t) rfl htF rfl) ?_
              first | refine GT_st rfl rfl rfl rfl (V_field rfl rfl fo_35_1) ?_ | refine GT_st rfl rfl rfl rfl (V_fieldA rfl rfl fo_35_1) ?_
              refine GT_st rfl rfl rfl rfl (V_load rfl rfl ag_2 (CellAt.own (j := 1) (u := I (sumI p (vG l p f am) t ((sndI p t p.length).take j)).r) hO3 eSam_len (by omega) (by rw [outL_at htF]; rfl))) ?_
              first | refine GT_st rfl rfl rfl rfl (V_field rfl rfl fo_35_1) ?_ | refine GT_st rfl rfl rfl rfl (V_fieldA rfl rfl fo_35_1) ?_
              refine GT_st rfl rfl rfl rfl (V_load rfl rfl ag_2 (CellAt.item rfl)) ?_
              refine GT_st rfl rfl rfl rfl (V_add rfl rfl rfl (wrap_i64 (by omega))) ?_
              refine GT_st rfl rfl rfl rfl (V_index rfl rfl rfl Tryd.underlying22 sz_35 (k := t) rfl htF rfl) ?_
              first | refine GT_st rfl rfl rfl rfl (V_field rfl rfl fo_35_1) ?_ | refine GT_st rfl rfl rfl rfl (V_fieldA rfl rfl fo_35_1) ?_
              refine GT_storeF (enc := eSam) (q := t) (j := 1) (xx := sad (sumI p (vG l p f am) t ((sndI p t p.length).take j)) (vG l p f am i ((t : Int) - bgn p i))) rfl rfl rfl rfl rfl rfl rfl sz_2 hO3 eSam_len rfl (by omega) (by decide) (by rw [outL_at htF]; rfl) (fun _ _ => GR_nil) (fun I4 hO4 => ?_)
              refine GT_nil ?_
              refine GE_inBlock ?_
              refine GE_slots (L' := [(0, _), (1, _), (2, _), (3, _), (10, _), (11, _), (12, _), (13, _), (14, _)]) ⟨rfl, rfl, rfl, rfl, rfl, rfl, rfl, rfl, rfl, trivial⟩ ?_
              rw [outL_set htF] at hO4
              refine GE_plain (.st 0 (.st 1 (.ld 2 [] .nil))) rfl ?_
              refine GT_st rfl rfl rfl rfl (V_move rfl rfl) ?_
              refine GT_st rfl rfl rfl rfl (V_add rfl rfl rfl (wrap_i64 (by omega))) ?_
              refine GT_ldv rfl rfl rfl rfl rfl (V_assign rfl rfl) (GR_nil) ?_
              refine GT_nil ?_
              exact GE_to (ih2 (j + 1, I4) ⟨by dsimp only; omega, by dsimp only; rw [take_snoc (by omega), hsi, sumI_snoc]; exact hO4⟩ (by dsimp only; omega)) ⟨rfl, rfl, rfl, rfl, rfl, rfl, rfl, rfl, rfl, trivial⟩ (HS.chunk HS.last)
            · skip
              refine GE_seq ?_
              refine GE_plain (.st 0 .nil) rfl ?_
              refine GT_st rfl rfl rfl rfl (V_move rfl rfl) ?_
              refine GT_nil ?_
              first | refine GE_condNot rfl (fun q3 => ?_) (fun q3 => ?_) | refine GE_cond rfl (fun q3 => ?_) (fun q3 => ?_) | refine GE_condNotB rfl (fun q3 => ?_) (fun q3 => ?_) | refine GE_condB rfl (fun q3 => ?_) (fun q3 => ?_)
              · subst q3
                refine GE_drawn (.st 0 (.st 1 (.st 3 (.st 4 (.ld 2 [3, 4] (.ld 5 [] (.st 6 (.ld 7 [] .nil)))))))) [2, 5, 7] (by decide +kernel) ?_
                first | refine GT_st rfl rfl rfl rfl (V_field rfl rfl fo_35_0) ?_ | refine GT_st rfl rfl rfl rfl (V_fieldA rfl rfl fo_35_0) ?_
                refine GT_st rfl rfl rfl rfl (V_load rfl rfl ag_2 (CellAt.item rfl)) ?_
                first | refine GT_st rfl rfl rfl rfl (V_field rfl rfl fo_35_1) ?_ | refine GT_st rfl rfl rfl rfl (V_fieldA rfl rfl fo_35_1) ?_
                refine GT_st rfl rfl rfl rfl (V_load rfl rfl ag_2 (CellAt.item rfl)) ?_
                refine GT_call0 rfl rfl rfl rfl rfl rfl rfl rfl rn_54 (fun w hw => C_rAmount (by omega)) (GR_cons rfl rfl rfl rfl ((by first | exact V_field rfl rfl fo_35_1 | exact V_fieldA rfl rfl fo_35_1)) (GR_cons rfl rfl rfl rfl (V_load rfl rfl ag_2 (CellAt.item rfl)) (GR_nil))) ?_
                refine GT_call0 rfl rfl rfl rfl rfl rfl rfl rfl rn_54 (fun w hw => C_rAmount (by omega)) (GR_nil) ?_
                refine GT_st rfl rfl rfl rfl (V_build (vs := [_, _]) rfl rfl zc_35 pl_35 sa_35 rfl) ?_
                refine GT_store (vs := [_, _]) (l' := [_, _]) rfl rfl rfl rfl rfl rfl rfl sz_35 rfl rfl (Nat.le_of_ble_eq_true rfl) rfl (GR_nil) ?_
                refine GT_nil ?_
                exact GE_to (hcut () trivial) ⟨rfl, rfl, rfl, rfl, rfl, rfl, rfl, rfl, rfl, rfl, trivial⟩ (HS.cons rfl (HS.chunk HS.last))
              · subst q3
                refine GE_skip ?_
                exact GE_to (hcut () trivial) ⟨rfl, rfl, rfl, rfl, rfl, rfl, rfl, rfl, rfl, rfl, trivial⟩ (HS.cons rfl (HS.chunk HS.last))
          · skip
            refine GE_slots (L' := [(0, _), (1, _), (2, _), (3, _), (10, _), (11, _), (12, _), (13, _), (14, _), (15, _)]) ⟨rfl, rfl, rfl, rfl, rfl, rfl, rfl, rfl, rfl, rfl, trivial⟩ ?_
            refine GE_drawn (.st 0 (.st 1 (.st 2 (.st 3 (.st 4 (.st 5 (.st 6 (.st 7 (.st 8 (.st 9 (.st 10 (.st 11 (.st 12 (.st 13 (.st 14 (.br (.ld 15 [] (.ld 16 [0, 1, 2, 3, 4, 5, 6, 7, 8, 9, 10, 11, 12, 13, 14] (.ld 17 [] .nil))) (.ld 16 [0, 1, 2, 3, 4, 5, 6, 7, 8, 9, 10, 11, 12, 13, 14] (.ld 15 [] (.ld 17 [] .nil))))))))))))))))))) [15, 16, 17] (by decide +kernel) ?_
            refine GT_st rfl rfl rfl rfl (V_move rfl rfl) ?_
            refine GT_st rfl rfl rfl rfl (V_loadN (vs := [_, _, _, _, _, _, _]) rfl rfl ag_30 sz_30 rfl (CellsAt.item rfl)) ?_
            refine GT_st rfl rfl rfl rfl (V_move rfl rfl) ?_
            refine GT_st rfl rfl rfl rfl (V_move rfl rfl) ?_
            refine GT_st rfl rfl rfl rfl (V_index rfl rfl rfl Tryd.underlying66 sz_70 (k := j) rfl hjl (hz.isSome hjl)) ?_
            first | refine GT_st rfl rfl rfl rfl (V_field rfl rfl fo_70_2) ?_ | refine GT_st rfl rfl rfl rfl (V_fieldA rfl rfl fo_70_2) ?_
            refine GT_st rfl rfl rfl rfl (V_load rfl rfl ag_3 (CellAt.own (j := 2) hz eSrc_len hjl (by rw [hsj]; exact (show _ = some (I ((pt p i).fr + ((t : Int) - bgn p i))) from rfl)))) ?_
            first | refine GT_st rfl rfl rfl rfl (V_field rfl rfl fo_30_1) ?_ | refine GT_st rfl rfl rfl rfl (V_fieldA rfl rfl fo_30_1) ?_
            refine GT_st rfl rfl rfl rfl (V_load rfl rfl ag_3 (CellAt.item rfl)) ?_
            refine GT_st rfl rfl rfl rfl (V_sub rfl rfl rfl ((wrap_i64 (by omega)).trans (show _ = (t : Int) - bgn p i by omega))) ?_
            first | refine GT_st rfl rfl rfl rfl (V_field rfl rfl fo_30_6) ?_ | refine GT_st rfl rfl rfl rfl (V_fieldA rfl rfl fo_30_6) ?_
            refine GT_st rfl rfl rfl rfl (V_load rfl rfl ag_2 (CellAt.item rfl)) ?_
            refine GT_st rfl rfl rfl rfl (V_move rfl rfl) ?_
            refine GT_st rfl rfl rfl rfl (V_mul rfl rfl rfl (wrap_i64 (by omega))) ?_
            refine GT_st rfl rfl rfl rfl (V_quo rfl rfl rfl (by omega) (wrap_i64 (by omega))) ?_
            refine GT_br ?_ ?_
            · skip
              refine GT_call0 rfl rfl rfl rfl rfl rfl rfl rfl rn_64 (fun w hw => C_rsound (x := pt p i) (k := (t : Int) - bgn p i) (lev := ((pt p i).lev * f).tdiv 1000) hP.tks (hP.each i hil) (h.sh hw) (by omega) (by omega) hlf.2.2.1 hlf.2.2.2) (GR_nil) ?_
              refine GT_alloc rfl rfl rfl rfl rfl zc_35 (fun _ => GR_cons rfl rfl rfl rfl (V_move rfl rfl) (GR_cons rfl rfl rfl rfl (V_loadN (vs := [_, _, _, _, _, _, _]) rfl rfl ag_30 sz_30 rfl (CellsAt.item rfl)) (GR_cons rfl rfl rfl rfl (V_move rfl rfl) (GR_cons rfl rfl rfl rfl (V_move rfl rfl) (GR_cons rfl rfl rfl rfl (V_index rfl rfl rfl Tryd.underlying66 sz_70 (k := j) rfl hjl (hz.isSome hjl)) (GR_cons rfl rfl rfl rfl ((by first | exact V_field rfl rfl fo_70_2 | exact V_fieldA rfl rfl fo_70_2)) (GR_cons rfl rfl rfl rfl (V_load rfl rfl ag_3 (CellAt.own (j := 2) hz eSrc_len hjl (by rw [hsj]; exact (show _ = some (I ((pt p i).fr + ((t : Int) - bgn p i))) from rfl)))) (GR_cons rfl rfl rfl rfl ((by first | exact V_field rfl rfl fo_30_1 | exact V_fieldA rfl rfl fo_30_1)) (GR_cons rfl rfl rfl rfl (V_load rfl rfl ag_3 (CellAt.item rfl)) (GR_cons rfl rfl rfl rfl (V_sub rfl rfl rfl ((wrap_i64 (by omega)).trans (show _ = (t : Int) - bgn p i by omega))) (GR_cons rfl rfl rfl rfl ((by first | exact V_field rfl rfl fo_30_6 | exact V_fieldA rfl rfl fo_30_6)) (GR_cons rfl rfl rfl rfl (V_load rfl rfl ag_2 (CellAt.item rfl)) (GR_cons rfl rfl rfl rfl (V_move rfl rfl) (GR_cons rfl rfl rfl rfl (V_mul rfl rfl rfl (wrap_i64 (by omega))) (GR_cons rfl rfl rfl rfl (V_quo rfl rfl rfl (by omega) (wrap_i64 (by omega))) (GR_nil)))))))))))))))) (fun b16 => ?_)
              refine GT_store (vs := [_, _]) (l' := [_, _]) rfl rfl rfl rfl rfl rfl rfl sz_35 rfl rfl (Nat.le_of_ble_eq_true rfl) rfl (GR_nil) ?_
              refine GT_nil ?_
              exact GE_to (hcut0 b16 trivial) ⟨rfl, rfl, rfl, rfl, rfl, rfl, rfl, rfl, rfl, rfl, trivial⟩ (HS.cons rfl (HS.chunk HS.last))
            · skip
              refine GT_alloc rfl rfl rfl rfl rfl zc_35 (fun _ => GR_cons rfl rfl rfl rfl (V_move rfl rfl) (GR_cons rfl rfl rfl rfl (V_loadN (vs := [_, _, _, _, _, _, _]) rfl rfl ag_30 sz_30 rfl (CellsAt.item rfl)) (GR_cons rfl rfl rfl rfl (V_move rfl rfl) (GR_cons rfl rfl rfl rfl (V_move rfl rfl) (GR_cons rfl rfl rfl rfl (V_index rfl rfl rfl Tryd.underlying66 sz_70 (k := j) rfl hjl (hz.isSome hjl)) (GR_cons rfl rfl rfl rfl ((by first | exact V_field rfl rfl fo_70_2 | exact V_fieldA rfl rfl fo_70_2)) (GR_cons rfl rfl rfl rfl (V_load rfl rfl ag_3 (CellAt.own (j := 2) hz eSrc_len hjl (by rw [hsj]; exact (show _ = some (I ((pt p i).fr + ((t : Int) - bgn p i))) from rfl)))) (GR_cons rfl rfl rfl rfl ((by first | exact V_field rfl rfl fo_30_1 | exact V_fieldA rfl rfl fo_30_1)) (GR_cons rfl rfl rfl rfl (V_load rfl rfl ag_3 (CellAt.item rfl)) (GR_cons rfl rfl rfl rfl (V_sub rfl rfl rfl ((wrap_i64 (by omega)).trans (show _ = (t : Int) - bgn p i by omega))) (GR_cons rfl rfl rfl rfl ((by first | exact V_field rfl rfl fo_30_6 | exact V_fieldA rfl rfl fo_30_6)) (GR_cons rfl rfl rfl rfl (V_load rfl rfl ag_2 (CellAt.item rfl)) (GR_cons rfl rfl rfl rfl (V_move rfl rfl) (GR_cons rfl rfl rfl rfl (V_mul rfl rfl rfl (wrap_i64 (by omega))) (GR_cons rfl rfl rfl rfl (V_quo rfl rfl rfl (by omega) (wrap_i64 (by omega))) (GR_nil)))))))))))))))) (fun b16 => ?_)
              refine GT_call0 rfl rfl rfl rfl rfl rfl rfl rfl rn_64 (fun w hw => C_rsound (x := pt p i) (k := (t : Int) - bgn p i) (lev := ((pt p i).lev * f).tdiv 1000) hP.tks (hP.each i hil) (h.sh hw) (by omega) (by omega) hlf.2.2.1 hlf.2.2.2) (GR_nil) ?_
              refine GT_store (vs := [_, _]) (l' := [_, _]) rfl rfl rfl rfl rfl rfl rfl sz_35 rfl rfl (Nat.le_of_ble_eq_true rfl) rfl (GR_nil) ?_
              refine GT_nil ?_
              exact GE_to (hcut0 b16 trivial) ⟨rfl, rfl, rfl, rfl, rfl, rfl, rfl, rfl, rfl, rfl, trivial⟩ (HS.cons rfl (HS.chunk HS.last))
        · have hall : (sndI p t p.length).take j = sndI p t p.length := List.take_of_length_le (by omega); rw [hall] at hO2
          refine GE_exit rfl ?_
          refine GE_inBlock ?_
          refine GE_slots (L' := [(0, _), (1, _), (2, _), (3, _), (10, _), (11, _), (12, _)]) ⟨rfl, rfl, rfl, rfl, rfl, rfl, rfl, trivial⟩ ?_
          refine GE_plain (.st 0 (.st 1 (.ld 2 [] .nil))) rfl ?_
          refine GT_st rfl rfl rfl rfl (V_move rfl rfl) ?_
          refine GT_st rfl rfl rfl rfl (V_add rfl rfl rfl (wrap_i64 (by omega))) ?_
          refine GT_ldv rfl rfl rfl rfl rfl (V_assign rfl rfl) (GR_nil) ?_
          refine GT_nil ?_
          exact GE_to (ih (t + 1, I2) ⟨by dsimp only; omega, by dsimp only; rw [Int.natCast_succ, ← outL_next, mixN_sum]; exact hO2⟩ (by dsimp only; omega)) ⟨rfl, rfl, rfl, rfl, rfl, rfl, rfl, trivial⟩ HS.last
      · exact ⟨Nat.zero_le _, hO⟩
    · have htF : t = (fin p).toNat := (by omega); rw [htF, outL_end] at hO
      refine GE_exit rfl ?_
      refine GE_seq ?_
      refine GE_slots (L' := [(11, _)]) ⟨rfl, trivial⟩ ?_
      refine GE_plain (.st 0 (.st 1 .nil)) rfl ?_
      refine GT_st rfl rfl rfl rfl (V_move rfl rfl) ?_
      refine GT_st rfl rfl rfl rfl (V_assign rfl rfl) ?_
      refine GT_nil ?_
      refine GE_ret Tryd.func65 rfl (fun w hw => ?_)
      exact ⟨(some ⟨b23, 0, none⟩, (fin p).toNat, I1), hO, rfl, hw⟩
  · exact ⟨Nat.zero_le _, by rw [show (((0 : Nat), [(b23, blk ((List.replicate (fin p).toNat [I 0, I 0]).flatten) 35)]).1 : Int) = 0 from rfl, outL_zero]; exact Own.made (x := (⟨0, 0⟩ : Sam)) rfl (by unfold maxLen; omega)⟩
theorem mix_wf (hP : ProgOk l p) {v : Nat → Int → Sam} (hv : ∀ i k, i < p.length → 0 ≤ k → k < lng (pt p i) → (v i k).bd 1000000) : ∀ x ∈ mix p v, x.wf := by
  intro x hx
  unfold mix at hx
  obtain ⟨t, _, rfl⟩ := List.mem_map.1 hx
  have := mixN_bd8 hP hv (Nat.le_refl _) (t : Int)
  unfold Sam.bd at this
  unfold Sam.wf I64
  omega
theorem C_rCheckSamplesN {s : List Sam} {n : Nat} (hn : s.length = n) (h : RdL w 2 eSam A s) (hs : ∀ x ∈ s, x.wf) : Con0 Tryd.prog 15 [.slice A n c] w (I (sErr s)) := hn ▸ C_rCheckSamples h hs
theorem C_rRender (h : Tks w A l) (hp : RdL w 7 ePrt A2 p) : Con Tryd.prog 42 [.slice A l.length c, .slice A2 p.length c2] w (fun y : OI => Own 2 35 eSam (rendL l p) (.slice y.1 (rendL l p).length y.2.1) y.2.2)
    (fun y => .tuple #[.slice y.1 (rendL l p).length y.2.1, I (rErr l p)]) (fun y => y.2.2) := by
  refine Ret_of (vs := [_, _]) hm none' Tryd.func42 rfl Tryd.ntmps42 rfl ?_
  dsimp only [slotsOf]
  refine GE_seq ?_
  refine GE_plain (.st 0 (.st 1 .nil)) rfl ?_
  refine GT_st rfl rfl rfl rfl (V_assign rfl rfl) ?_
  refine GT_st rfl rfl rfl rfl (V_assign rfl rfl) ?_
  refine GT_nil ?_
  refine GE_seq ?_
  refine GE_seq ?_
  refine GE_plain (.st 0 (.st 1 (.ld 2 [] (.st 3 .nil)))) rfl ?_
  refine GT_st rfl rfl rfl rfl (V_move rfl rfl) ?_
  refine GT_st rfl rfl rfl rfl (V_move rfl rfl) ?_
  refine GT_call0 rfl rfl rfl rfl rfl rfl rfl rfl rn_21 (fun w hw => C_rCheckProgramme (h.sh hw) (hp.sh hw)) (GR_nil) ?_
  refine GT_st rfl rfl rfl rfl (V_neq rfl rfl rfl) ?_
  refine GT_nil ?_
  first | refine GE_condNot rfl (fun q1 => ?_) (fun q1 => ?_) | refine GE_cond rfl (fun q1 => ?_) (fun q1 => ?_) | refine GE_condNotB rfl (fun q1 => ?_) (fun q1 => ?_) | refine GE_condB rfl (fun q1 => ?_) (fun q1 => ?_)
  · skip
    refine GE_seq ?_
    refine GE_slots (L' := [(0, _), (1, _)]) ⟨rfl, rfl, trivial⟩ ?_
    refine GE_plain (.st 0 (.st 1 (.ld 2 [] (.st 3 (.st 4 .nil))))) rfl ?_
    refine GT_st rfl rfl rfl rfl (V_move rfl rfl) ?_
    refine GT_st rfl rfl rfl rfl (V_move rfl rfl) ?_
    refine GT_call0 rfl rfl rfl rfl rfl rfl rfl rfl rn_21 (fun w hw => C_rCheckProgramme (h.sh hw) (hp.sh hw)) (GR_nil) ?_
    refine GT_st rfl rfl rfl rfl (V_assign rfl rfl) ?_
    refine GT_st rfl rfl rfl rfl (V_assign rfl rfl) ?_
    refine GT_nil ?_
    refine GE_ret Tryd.func42 ⟨_, _, rfl, rfl, rfl⟩ (fun w hw => ?_)
    have e : rErr l p = gErr l p := if_neg q1; have e2 : rendL l p = [] := if_neg (by omega); exact ⟨(none, 0, []), by dsimp only; rw [e2]; exact Own.nil, by dsimp only; rw [e, e2]; rfl, hw.nil⟩
  · have hP := gErr_zero.1 q1
    refine GE_skip ?_
    refine GE_seq ?_
    refine GE_slots (L' := [(0, _), (1, _)]) ⟨rfl, rfl, trivial⟩ ?_
    refine GE_plain (.st 0 (.st 1 (.ld 2 [] (.st 3 .nil)))) rfl ?_
    refine GT_st rfl rfl rfl rfl (V_move rfl rfl) ?_
    refine GT_st rfl rfl rfl rfl (V_move rfl rfl) ?_
    refine GT_call rfl rfl rfl rfl rfl rfl rfl rfl rn_65 (fun w hw => C_rrender (f := 1000) (am := false) (h.sh hw) (hp.sh hw) hP (by decide) (by decide)) (fun _ _ => GR_nil) (fun y hy => ?_)
    rw [vG_false] at hy
    refine GT_st rfl rfl rfl rfl (V_assign rfl rfl) ?_
    refine GT_nil ?_
    refine GE_seq ?_
    refine GE_seq ?_
    refine GE_slots (L' := [(6, _)]) ⟨rfl, trivial⟩ ?_
    refine GE_plain (.st 0 (.ld 1 [] (.st 2 .nil))) rfl ?_
    refine GT_st rfl rfl rfl rfl (V_move rfl rfl) ?_
    refine GT_call0 rfl rfl rfl rfl rfl rfl rfl rfl rn_15 (fun w hw => C_rCheckSamplesN (s := mix p (vR l p)) (mix_len p (vR l p)) (hy.rdH eSam_len hw) (mix_wf hP (vR_bd hP))) (GR_nil) ?_
    refine GT_st rfl rfl rfl rfl (V_neq rfl rfl rfl) ?_
    refine GT_nil ?_
    first | refine GE_condNot rfl (fun q2 => ?_) (fun q2 => ?_) | refine GE_cond rfl (fun q2 => ?_) (fun q2 => ?_) | refine GE_condNotB rfl (fun q2 => ?_) (fun q2 => ?_) | refine GE_condB rfl (fun q2 => ?_) (fun q2 => ?_)
    · skip
      refine GE_seq ?_
      refine GE_slots (L' := []) trivial ?_
      refine GE_plain (.st 0 (.st 1 .nil)) rfl ?_
      refine GT_st rfl rfl rfl rfl (V_assign rfl rfl) ?_
      refine GT_st rfl rfl rfl rfl (V_assign rfl rfl) ?_
      refine GT_nil ?_
      refine GE_ret Tryd.func42 ⟨_, _, rfl, rfl, rfl⟩ (fun w hw => ?_)
      have e : rErr l p = 4 := (by rw [rErr, if_pos q1]; exact if_neg q2); have e2 : rendL l p = [] := if_neg (by omega); exact ⟨(none, 0, []), by dsimp only; rw [e2]; exact Own.nil, by dsimp only; rw [e, e2]; rfl, hw.nil⟩
    · skip
      refine GE_skip ?_
      refine GE_seq ?_
      refine GE_plain (.st 0 (.st 1 (.st 2 .nil))) rfl ?_
      refine GT_st rfl rfl rfl rfl (V_move rfl rfl) ?_
      refine GT_st rfl rfl rfl rfl (V_assign rfl rfl) ?_
      refine GT_st rfl rfl rfl rfl (V_assign rfl rfl) ?_
      refine GT_nil ?_
      refine GE_ret Tryd.func42 ⟨_, _, rfl, rfl, rfl⟩ (fun w hw => ?_)
      have e : rErr l p = 0 := (by rw [rErr, if_pos q1]; exact if_pos q2); have e2 : rendL l p = rend l p := if_pos e; have e3 : (rend l p).length = (fin p).toNat := mix_len p (vR l p); exact ⟨y, by rw [e2, e3]; exact hy, by rw [e, e2, e3], hw.hs (C := cx Tryd.prog hm 0 0 _ none' fun _ _ => True) HS.last⟩
theorem C_rHeadroom (h : Tks w A l) (hp : RdL w 7 ePrt A2 p) : Con0 Tryd.prog 43 [.slice A l.length c, .slice A2 p.length c2] w (.tuple #[I (hdV l p), I (gErr l p)]) := by
  have hb := hd_bd l p
  refine Ret_of (vs := [_, _]) hm none' Tryd.func43 rfl Tryd.ntmps43 rfl ?_
  dsimp only [slotsOf]
  refine GE_seq ?_
  refine GE_plain (.st 0 (.st 1 .nil)) rfl ?_
  refine GT_st rfl rfl rfl rfl (V_assign rfl rfl) ?_
  refine GT_st rfl rfl rfl rfl (V_assign rfl rfl) ?_
  refine GT_nil ?_
  refine GE_seq ?_
  refine GE_seq ?_
  refine GE_plain (.st 0 (.st 1 (.ld 2 [] (.st 3 .nil)))) rfl ?_
  refine GT_st rfl rfl rfl rfl (V_move rfl rfl) ?_
  refine GT_st rfl rfl rfl rfl (V_move rfl rfl) ?_
  refine GT_call0 rfl rfl rfl rfl rfl rfl rfl rfl rn_21 (fun w hw => C_rCheckProgramme (h.sh hw) (hp.sh hw)) (GR_nil) ?_
  refine GT_st rfl rfl rfl rfl (V_neq rfl rfl rfl) ?_
  refine GT_nil ?_
  first | refine GE_condNot rfl (fun q1 => ?_) (fun q1 => ?_) | refine GE_cond rfl (fun q1 => ?_) (fun q1 => ?_) | refine GE_condNotB rfl (fun q1 => ?_) (fun q1 => ?_) | refine GE_condB rfl (fun q1 => ?_) (fun q1 => ?_)
  · skip
    refine GE_seq ?_
    refine GE_slots (L' := [(0, _), (1, _)]) ⟨rfl, rfl, trivial⟩ ?_
    refine GE_plain (.st 0 (.st 1 (.ld 2 [] (.st 3 (.st 4 .nil))))) rfl ?_
    refine GT_st rfl rfl rfl rfl (V_move rfl rfl) ?_
    refine GT_st rfl rfl rfl rfl (V_move rfl rfl) ?_
    refine GT_call0 rfl rfl rfl rfl rfl rfl rfl rfl rn_21 (fun w hw => C_rCheckProgramme (h.sh hw) (hp.sh hw)) (GR_nil) ?_
    refine GT_st rfl rfl rfl rfl (V_assign rfl rfl) ?_
    refine GT_st rfl rfl rfl rfl (V_assign rfl rfl) ?_
    refine GT_nil ?_
    refine GE_ret Tryd.func43 ⟨_, _, rfl, rfl, rfl⟩ (fun w hw => ⟨?_, hw.nil⟩)
    rw [hdV, if_neg q1]
  · have hP := gErr_zero.1 q1
    refine GE_skip ?_
    refine GE_seq ?_
    refine GE_slots (L' := [(0, _), (1, _)]) ⟨rfl, rfl, trivial⟩ ?_
    refine GE_plain (.st 0 (.st 1 .nil)) rfl ?_
    refine GT_st rfl rfl rfl rfl (V_assign rfl rfl) ?_
    refine GT_st rfl rfl rfl rfl (V_assign rfl rfl) ?_
    refine GT_nil ?_
    refine GE_seq ?_
    refine GE_block ?_
    refine GE_to (GE_loop (ι := Int × Int) (fun x => (x.2 - x.1).toNat) (fun x => [(0, .slice A l.length c), (1, .slice A2 p.length c2), (6, I x.1), (7, I x.2)]) (fun x => []) (fun x => 0 ≤ x.1 ∧ x.1 ≤ hd l p ∧ hd l p ≤ x.2 ∧ x.2 ≤ 4000) ?_ (0, 4000) ?_) ⟨rfl, rfl, rfl, rfl, trivial⟩ HS.nil
    · rintro ⟨lo, hi⟩ ⟨h0, h1, h2, h3⟩ ih; dsimp only at h0 h1 h2 h3 ih ⊢
      refine GE_seq ?_
      refine GE_seq ?_
      refine GE_plain (.st 0 (.st 1 (.st 2 .nil))) rfl ?_
      refine GT_st rfl rfl rfl rfl (V_move rfl rfl) ?_
      refine GT_st rfl rfl rfl rfl (V_move rfl rfl) ?_
      refine GT_st rfl rfl rfl rfl (V_lss rfl rfl rfl) ?_
      refine GT_nil ?_
      first | refine GE_condNot rfl (fun q2 => ?_) (fun q2 => ?_) | refine GE_cond rfl (fun q2 => ?_) (fun q2 => ?_) | refine GE_condNotB rfl (fun q2 => ?_) (fun q2 => ?_) | refine GE_condB rfl (fun q2 => ?_) (fun q2 => ?_)
      · skip
        refine GE_skip ?_
        refine GE_block ?_
        refine GE_seq ?_
        refine GE_plain (.st 0 (.st 1 (.st 2 (.st 3 (.st 4 (.st 5 .nil)))))) rfl ?_
        refine GT_st rfl rfl rfl rfl (V_move rfl rfl) ?_
        refine GT_st rfl rfl rfl rfl (V_move rfl rfl) ?_
        refine GT_st rfl rfl rfl rfl (V_add rfl rfl rfl (wrap_i64 (by omega))) ?_
        refine GT_st rfl rfl rfl rfl (V_add rfl rfl rfl (wrap_i64 (by omega))) ?_
        refine GT_st rfl rfl rfl rfl (V_quo rfl rfl rfl (by omega) ((wrap_i64 (by rw [Int.tdiv_eq_ediv_of_nonneg (by omega)]; omega)).trans (show _ = (lo + hi + 1) / 2 by rw [Int.tdiv_eq_ediv_of_nonneg (by omega)]))) ?_
        refine GT_st rfl rfl rfl rfl (V_assign rfl rfl) ?_
        refine GT_nil ?_
        refine GE_seq ?_
        refine GE_slots (L' := [(0, _), (1, _), (6, _), (7, _), (8, _)]) ⟨rfl, rfl, rfl, rfl, rfl, trivial⟩ ?_
        refine GE_plain (.st 0 (.st 1 (.st 2 (.ld 3 [] (.ld 4 [] (.st 5 .nil)))))) rfl ?_
        refine GT_st rfl rfl rfl rfl (V_move rfl rfl) ?_
        refine GT_st rfl rfl rfl rfl (V_move rfl rfl) ?_
        refine GT_st rfl rfl rfl rfl (V_move rfl rfl) ?_
        refine GT_call rfl rfl rfl rfl rfl rfl rfl rfl rn_65 (fun w hw => C_rrender (f := (lo + hi + 1) / 2) (am := true) (h.sh hw) (hp.sh hw) hP (by omega) (by omega)) (fun _ _ => GR_nil) (fun y hy => ?_)
        rw [vG_true] at hy
        refine GT_call0 rfl rfl rfl rfl rfl rfl rfl rfl rn_15 (fun w hw => C_rCheckSamplesN (s := mix p (vH l p ((lo + hi + 1) / 2))) (mix_len p (vH l p ((lo + hi + 1) / 2))) (hy.rdH eSam_len hw) (mix_wf hP (fun i k a b c => (vH_bd hP (by omega) (by omega) i k a b c).1))) (GR_nil) ?_
        refine GT_st rfl rfl rfl rfl (V_eql rfl rfl rfl) ?_
        refine GT_nil ?_
        first | refine GE_condNot rfl (fun q3 => ?_) (fun q3 => ?_) | refine GE_cond rfl (fun q3 => ?_) (fun q3 => ?_) | refine GE_condNotB rfl (fun q3 => ?_) (fun q3 => ?_) | refine GE_condB rfl (fun q3 => ?_) (fun q3 => ?_)
        · skip
          refine GE_slots (L' := [(0, _), (1, _), (7, _), (8, _)]) ⟨rfl, rfl, rfl, rfl, trivial⟩ ?_
          refine GE_plain (.st 0 (.st 1 .nil)) rfl ?_
          refine GT_st rfl rfl rfl rfl (V_move rfl rfl) ?_
          refine GT_st rfl rfl rfl rfl (V_assign rfl rfl) ?_
          refine GT_nil ?_
          refine GE_inBlock ?_
          first
            | exact GE_to (ih ((lo + hi + 1) / 2, hi) ⟨by dsimp only; omega, by dsimp only; exact (hd_iff hP (by omega) (by omega)).1 (decide_eq_true q3), by dsimp only; omega, by dsimp only; omega⟩ (by dsimp only; omega)) ⟨rfl, rfl, rfl, rfl, trivial⟩ HS.nil
            | exact GE_to (ih (lo, (lo + hi + 1) / 2 - 1) ⟨by dsimp only; omega, by dsimp only; omega, by dsimp only; have := mt (hd_iff (l := l) hP (f := (lo + hi + 1) / 2) (by omega) (by omega)).2 (fun e => q3 (of_decide_eq_true e)); omega, by dsimp only; omega⟩ (by dsimp only; omega)) ⟨rfl, rfl, rfl, rfl, trivial⟩ HS.nil
        · skip
          refine GE_slots (L' := [(0, _), (1, _), (6, _), (8, _)]) ⟨rfl, rfl, rfl, rfl, trivial⟩ ?_
          refine GE_plain (.st 0 (.st 1 (.st 2 .nil))) rfl ?_
          refine GT_st rfl rfl rfl rfl (V_move rfl rfl) ?_
          refine GT_st rfl rfl rfl rfl (V_sub rfl rfl rfl (wrap_i64 (by omega))) ?_
          refine GT_st rfl rfl rfl rfl (V_assign rfl rfl) ?_
          refine GT_nil ?_
          refine GE_inBlock ?_
          first
            | exact GE_to (ih ((lo + hi + 1) / 2, hi) ⟨by dsimp only; omega, by dsimp only; exact (hd_iff hP (by omega) (by omega)).1 (decide_eq_true q3), by dsimp only; omega, by dsimp only; omega⟩ (by dsimp only; omega)) ⟨rfl, rfl, rfl, rfl, trivial⟩ HS.nil
            | exact GE_to (ih (lo, (lo + hi + 1) / 2 - 1) ⟨by dsimp only; omega, by dsimp only; omega, by dsimp only; have := mt (hd_iff (l := l) hP (f := (lo + hi + 1) / 2) (by omega) (by omega)).2 (fun e => q3 (of_decide_eq_true e)); omega, by dsimp only; omega⟩ (by dsimp only; omega)) ⟨rfl, rfl, rfl, rfl, trivial⟩ HS.nil
      · skip
        refine GE_exit rfl ?_
        refine GE_seq ?_
        refine GE_slots (L' := [(6, _)]) ⟨rfl, trivial⟩ ?_
        refine GE_plain (.st 0 (.st 1 (.st 2 .nil))) rfl ?_
        refine GT_st rfl rfl rfl rfl (V_move rfl rfl) ?_
        refine GT_st rfl rfl rfl rfl (V_assign rfl rfl) ?_
        refine GT_st rfl rfl rfl rfl (V_assign rfl rfl) ?_
        refine GT_nil ?_
        refine GE_ret Tryd.func43 ⟨_, _, rfl, rfl, rfl⟩ (fun w hw => ⟨?_, hw.nil⟩)
        rw [hdV, if_pos q1, q1, show hd l p = lo by omega]
    · exact ⟨by dsimp only; omega, by dsimp only; omega, by dsimp only; omega, by dsimp only; omega⟩
theorem C_rSound {i k : Int} (h : Tks w A l) (hp : RdL w 7 ePrt A2 p) : Con0 Tryd.prog 41 [.slice A l.length c, .slice A2 p.length c2, I i, I k] w (.tuple #[.agg #[I (sndV l p i k).l, I (sndV l p i k).r], I (sndE l p i k)]) := by
  have er : ∀ e : Int, e ≠ 0 → sndE l p i k = e → Value.tuple #[.agg #[I 0, I 0], I e] = .tuple #[.agg #[I (sndV l p i k).l, I (sndV l p i k).r], I (sndE l p i k)] := by
    intro e he h; rw [sndV, if_neg (by omega), h]
  refine Ret_of (vs := [_, _, _, _]) hm none' Tryd.func41 rfl Tryd.ntmps41 rfl ?_
  dsimp only [slotsOf]
  refine GE_seq ?_
  refine GE_plain (.ld 0 [] (.st 1 .nil)) rfl ?_
  refine GT_alloc rfl rfl rfl rfl rfl zc_35 (fun _ => GR_nil) (fun b8 => ?_)
  refine GT_st rfl rfl rfl rfl (V_assign rfl rfl) ?_
  refine GT_nil ?_
  refine GE_seq ?_
  refine GE_seq ?_
  refine GE_plain (.st 0 (.st 1 (.ld 2 [] (.st 3 .nil)))) rfl ?_
  refine GT_st rfl rfl rfl rfl (V_move rfl rfl) ?_
  refine GT_st rfl rfl rfl rfl (V_move rfl rfl) ?_
  refine GT_call0 rfl rfl rfl rfl rfl rfl rfl rfl rn_21 (fun w hw => C_rCheckProgramme (h.sh hw) (hp.sh hw)) (GR_nil) ?_
  refine GT_st rfl rfl rfl rfl (V_neq rfl rfl rfl) ?_
  refine GT_nil ?_
  first | refine GE_condNot rfl (fun q1 => ?_) (fun q1 => ?_) | refine GE_cond rfl (fun q1 => ?_) (fun q1 => ?_) | refine GE_condNotB rfl (fun q1 => ?_) (fun q1 => ?_) | refine GE_condB rfl (fun q1 => ?_) (fun q1 => ?_)
  · skip
    refine GE_seq ?_
    refine GE_slots (L' := [(0, _), (1, _), (8, _)]) ⟨rfl, rfl, rfl, trivial⟩ ?_
    refine GE_plain (.st 0 (.st 1 (.st 2 (.ld 3 [] (.ld 4 [] (.st 5 .nil)))))) rfl ?_
    refine GT_st rfl rfl rfl rfl (V_build (vs := [_, _]) rfl rfl zc_35 pl_35 sa_35 rfl) ?_
    refine GT_st rfl rfl rfl rfl (V_move rfl rfl) ?_
    refine GT_st rfl rfl rfl rfl (V_move rfl rfl) ?_
    refine GT_call0 rfl rfl rfl rfl rfl rfl rfl rfl rn_21 (fun w hw => C_rCheckProgramme (h.sh hw) (hp.sh hw)) (GR_nil) ?_
    refine GT_store (vs := [_, _]) (l' := [_, _]) rfl rfl rfl rfl rfl rfl rfl sz_35 rfl rfl (Nat.le_of_ble_eq_true rfl) rfl (GR_nil) ?_
    refine GT_st rfl rfl rfl rfl (V_assign rfl rfl) ?_
    refine GT_nil ?_
    refine GE_ret Tryd.func41 ⟨_, _, ⟨_, rfl, fun w m => run_loadVar_agg (vs := [_, _]) ag_35 sz_35 rfl (fun j v hj => CellsAt.item rfl j v hj w m)⟩, rfl, rfl⟩ (fun w hw => ⟨?_, hw.nil⟩)
    exact er _ q1 (if_neg q1)
  · have hP := gErr_zero.1 q1; have hG := gd_of hP
    refine GE_skip ?_
    refine GE_seq ?_
    refine GE_seq ?_
    refine GE_slots (L' := [(0, _), (1, _), (2, _), (3, _), (8, _)]) ⟨rfl, rfl, rfl, rfl, rfl, trivial⟩ ?_
    refine GE_plain (.st 0 (.st 1 (.st 2 (.st 3 (.st 4 (.st 5 (.st 6 (.st 7 (.st 8 (.st 9 (.st 10 (.st 11 (.st 12 (.st 13 (.st 14 (.st 15 (.st 16 (.st 17 (.ld 18 [] (.st 19 (.st 20 .nil))))))))))))))))))))) rfl ?_
    refine GT_st rfl rfl rfl rfl (V_move rfl rfl) ?_
    refine GT_st rfl rfl rfl rfl (V_lss rfl rfl rfl) ?_
    refine GT_st rfl rfl rfl rfl (V_move rfl rfl) ?_
    first | refine GT_splitNot (d := 20) rfl (fun q2 => ?_) (fun q2 => ?_) | refine GT_split (d := 20) rfl (fun q2 => ?_) (fun q2 => ?_) | refine GT_splitNotB (d := 20) rfl (fun q2 => ?_) (fun q2 => ?_) | refine GT_splitB (d := 20) rfl (fun q2 => ?_) (fun q2 => ?_)
    · skip
      refine GT_skip rfl rfl rfl rfl rfl (by decide) rfl rfl ?_
      refine GT_skip rfl rfl rfl rfl rfl (by decide) rfl rfl ?_
      refine GT_skip rfl rfl rfl rfl rfl (by decide) rfl rfl ?_
      refine GT_skip rfl rfl rfl rfl rfl (by decide) rfl rfl ?_
      refine GT_st rfl rfl rfl rfl (V_pick_t rfl rfl rfl) ?_
      refine GT_st rfl rfl rfl rfl (V_move rfl rfl) ?_
      refine GT_skip rfl rfl rfl rfl rfl (by decide) rfl rfl ?_
      refine GT_skip rfl rfl rfl rfl rfl (by decide) rfl rfl ?_
      refine GT_st rfl rfl rfl rfl (V_pick_t rfl rfl rfl) ?_
      refine GT_st rfl rfl rfl rfl (V_move rfl rfl) ?_
      refine GT_skip rfl rfl rfl rfl rfl (by decide) rfl rfl ?_
      refine GT_skip rfl rfl rfl rfl rfl (by decide) rfl rfl ?_
      refine GT_skip rfl rfl rfl rfl rfl (by decide) rfl rfl ?_
      refine GT_skip rfl rfl rfl rfl rfl (by decide) rfl rfl ?_
      refine GT_skip rfl rfl rfl rfl rfl (by decide) rfl rfl ?_
      refine GT_skip_ld rfl rfl rfl rfl rfl (by decide) rfl rfl rfl (GR_nil) ?_
      refine GT_skip rfl rfl rfl rfl rfl (by decide) rfl rfl ?_
      refine GT_st rfl rfl rfl rfl (V_pick_t rfl rfl rfl) ?_
      refine GT_nil ?_
      refine GE_cond_t rfl ?_
      refine GE_seq ?_
      refine GE_slots (L' := [(8, _)]) ⟨rfl, trivial⟩ ?_
      refine GE_plain (.st 0 (.ld 1 [] (.st 2 .nil))) rfl ?_
      refine GT_st rfl rfl rfl rfl (V_build (vs := [_, _]) rfl rfl zc_35 pl_35 sa_35 rfl) ?_
      refine GT_store (vs := [_, _]) (l' := [_, _]) rfl rfl rfl rfl rfl rfl rfl sz_35 rfl rfl (Nat.le_of_ble_eq_true rfl) rfl (GR_nil) ?_
      refine GT_st rfl rfl rfl rfl (V_assign rfl rfl) ?_
      refine GT_nil ?_
      refine GE_ret Tryd.func41 ⟨_, _, ⟨_, rfl, fun w m => run_loadVar_agg (vs := [_, _]) ag_35 sz_35 rfl (fun j v hj => CellsAt.item rfl j v hj w m)⟩, rfl, rfl⟩ (fun w hw => ⟨?_, hw.nil⟩)
      exact er 3 (by decide) (by rw [sndE, if_pos q1, if_neg (by omega)])
    · skip
      refine GT_st_g rfl rfl rfl rfl rfl rfl rfl (V_move rfl rfl) ?_
      refine GT_st_g rfl rfl rfl rfl rfl rfl rfl (V_move rfl rfl) ?_
      refine GT_st_g rfl rfl rfl rfl rfl rfl rfl (V_len rfl Tryd.underlying31 rfl) ?_
      refine GT_st_g rfl rfl rfl rfl rfl rfl rfl (V_geq rfl rfl rfl) ?_
      refine GT_st rfl rfl rfl rfl (V_pick_f rfl rfl rfl) ?_
      refine GT_st rfl rfl rfl rfl (V_move rfl rfl) ?_
      first | refine GT_splitNot (d := 26) rfl (fun q3 => ?_) (fun q3 => ?_) | refine GT_split (d := 26) rfl (fun q3 => ?_) (fun q3 => ?_) | refine GT_splitNotB (d := 26) rfl (fun q3 => ?_) (fun q3 => ?_) | refine GT_splitB (d := 26) rfl (fun q3 => ?_) (fun q3 => ?_)
      · skip
        refine GT_skip rfl rfl rfl rfl rfl (by decide) rfl rfl ?_
        refine GT_skip rfl rfl rfl rfl rfl (by decide) rfl rfl ?_
        refine GT_st rfl rfl rfl rfl (V_pick_t rfl rfl rfl) ?_
        refine GT_st rfl rfl rfl rfl (V_move rfl rfl) ?_
        refine GT_skip rfl rfl rfl rfl rfl (by decide) rfl rfl ?_
        refine GT_skip rfl rfl rfl rfl rfl (by decide) rfl rfl ?_
        refine GT_skip rfl rfl rfl rfl rfl (by decide) rfl rfl ?_
        refine GT_skip rfl rfl rfl rfl rfl (by decide) rfl rfl ?_
        refine GT_skip rfl rfl rfl rfl rfl (by decide) rfl rfl ?_
        refine GT_skip_ld rfl rfl rfl rfl rfl (by decide) rfl rfl rfl (GR_nil) ?_
        refine GT_skip rfl rfl rfl rfl rfl (by decide) rfl rfl ?_
        refine GT_st rfl rfl rfl rfl (V_pick_t rfl rfl rfl) ?_
        refine GT_nil ?_
        refine GE_cond_t rfl ?_
        refine GE_seq ?_
        refine GE_slots (L' := [(8, _)]) ⟨rfl, trivial⟩ ?_
        refine GE_plain (.st 0 (.ld 1 [] (.st 2 .nil))) rfl ?_
        refine GT_st rfl rfl rfl rfl (V_build (vs := [_, _]) rfl rfl zc_35 pl_35 sa_35 rfl) ?_
        refine GT_store (vs := [_, _]) (l' := [_, _]) rfl rfl rfl rfl rfl rfl rfl sz_35 rfl rfl (Nat.le_of_ble_eq_true rfl) rfl (GR_nil) ?_
        refine GT_st rfl rfl rfl rfl (V_assign rfl rfl) ?_
        refine GT_nil ?_
        refine GE_ret Tryd.func41 ⟨_, _, ⟨_, rfl, fun w m => run_loadVar_agg (vs := [_, _]) ag_35 sz_35 rfl (fun j v hj => CellsAt.item rfl j v hj w m)⟩, rfl, rfl⟩ (fun w hw => ⟨?_, hw.nil⟩)
        exact er 3 (by decide) (by rw [sndE, if_pos q1, if_neg (by omega)])
      · have hip : i.toNat < p.length := (by omega); have hpr := gd_prt hG hip; have hlev := (hP.each i.toNat hip).lev
        refine GT_st_g rfl rfl rfl rfl rfl rfl rfl (V_move rfl rfl) ?_
        refine GT_st_g rfl rfl rfl rfl rfl rfl rfl (V_lss rfl rfl rfl) ?_
        refine GT_st rfl rfl rfl rfl (V_pick_f rfl rfl rfl) ?_
        refine GT_st rfl rfl rfl rfl (V_move rfl rfl) ?_
        first | refine GT_splitNot (d := 30) rfl (fun q4 => ?_) (fun q4 => ?_) | refine GT_split (d := 30) rfl (fun q4 => ?_) (fun q4 => ?_) | refine GT_splitNotB (d := 30) rfl (fun q4 => ?_) (fun q4 => ?_) | refine GT_splitB (d := 30) rfl (fun q4 => ?_) (fun q4 => ?_)
        · skip
          refine GT_skip rfl rfl rfl rfl rfl (by decide) rfl rfl ?_
          refine GT_skip rfl rfl rfl rfl rfl (by decide) rfl rfl ?_
          refine GT_skip rfl rfl rfl rfl rfl (by decide) rfl rfl ?_
          refine GT_skip rfl rfl rfl rfl rfl (by decide) rfl rfl ?_
          refine GT_skip rfl rfl rfl rfl rfl (by decide) rfl rfl ?_
          refine GT_skip_ld rfl rfl rfl rfl rfl (by decide) rfl rfl rfl (GR_nil) ?_
          refine GT_skip rfl rfl rfl rfl rfl (by decide) rfl rfl ?_
          refine GT_st rfl rfl rfl rfl (V_pick_t rfl rfl rfl) ?_
          refine GT_nil ?_
          refine GE_cond_t rfl ?_
          refine GE_seq ?_
          refine GE_slots (L' := [(8, _)]) ⟨rfl, trivial⟩ ?_
          refine GE_plain (.st 0 (.ld 1 [] (.st 2 .nil))) rfl ?_
          refine GT_st rfl rfl rfl rfl (V_build (vs := [_, _]) rfl rfl zc_35 pl_35 sa_35 rfl) ?_
          refine GT_store (vs := [_, _]) (l' := [_, _]) rfl rfl rfl rfl rfl rfl rfl sz_35 rfl rfl (Nat.le_of_ble_eq_true rfl) rfl (GR_nil) ?_
          refine GT_st rfl rfl rfl rfl (V_assign rfl rfl) ?_
          refine GT_nil ?_
          refine GE_ret Tryd.func41 ⟨_, _, ⟨_, rfl, fun w m => run_loadVar_agg (vs := [_, _]) ag_35 sz_35 rfl (fun j v hj => CellsAt.item rfl j v hj w m)⟩, rfl, rfl⟩ (fun w hw => ⟨?_, hw.nil⟩)
          exact er 3 (by decide) (by rw [sndE, if_pos q1, if_neg (by omega)])
        · skip
          refine GT_st_g rfl rfl rfl rfl rfl rfl rfl (V_move rfl rfl) ?_
          refine GT_st_g rfl rfl rfl rfl rfl rfl rfl (V_move rfl rfl) ?_
          refine GT_st_g rfl rfl rfl rfl rfl rfl rfl (V_move rfl rfl) ?_
          refine GT_st_g rfl rfl rfl rfl rfl rfl rfl (V_index rfl rfl rfl Tryd.underlying31 sz_30 (k := i.toNat) (by omega) hip (hp.isSome hip)) ?_
          refine GT_st_g rfl rfl rfl rfl rfl rfl rfl (V_loadN (vs := [_, _, _, _, _, _, _]) rfl rfl ag_30 sz_30 rfl (show CellsAt _ _ _ (ePrt (pt p i.toNat)) from hp.ats noM hip)) ?_
          refine GT_call0_g rfl rfl rfl rfl rfl rfl rfl rfl rfl rfl rfl rn_56 (fun w hw => C_rLong (x := pt p i.toNat) (by omega)) (GR_nil) ?_
          refine GT_st_g rfl rfl rfl rfl rfl rfl rfl (V_geq rfl rfl rfl) ?_
          refine GT_st rfl rfl rfl rfl (V_pick_f rfl rfl rfl) ?_
          refine GT_nil ?_
          first | refine GE_condNot rfl (fun q5 => ?_) (fun q5 => ?_) | refine GE_cond rfl (fun q5 => ?_) (fun q5 => ?_) | refine GE_condNotB rfl (fun q5 => ?_) (fun q5 => ?_) | refine GE_condB rfl (fun q5 => ?_) (fun q5 => ?_)
          · skip
            refine GE_seq ?_
            refine GE_slots (L' := [(8, _)]) ⟨rfl, trivial⟩ ?_
            refine GE_plain (.st 0 (.ld 1 [] (.st 2 .nil))) rfl ?_
            refine GT_st rfl rfl rfl rfl (V_build (vs := [_, _]) rfl rfl zc_35 pl_35 sa_35 rfl) ?_
            refine GT_store (vs := [_, _]) (l' := [_, _]) rfl rfl rfl rfl rfl rfl rfl sz_35 rfl rfl (Nat.le_of_ble_eq_true rfl) rfl (GR_nil) ?_
            refine GT_st rfl rfl rfl rfl (V_assign rfl rfl) ?_
            refine GT_nil ?_
            refine GE_ret Tryd.func41 ⟨_, _, ⟨_, rfl, fun w m => run_loadVar_agg (vs := [_, _]) ag_35 sz_35 rfl (fun j v hj => CellsAt.item rfl j v hj w m)⟩, rfl, rfl⟩ (fun w hw => ⟨?_, hw.nil⟩)
            exact er 3 (by decide) (by rw [sndE, if_pos q1, if_neg (by omega)])
          · skip
            refine GE_skip ?_
            refine GE_seq ?_
            refine GE_slots (L' := [(0, _), (1, _), (2, _), (3, _), (8, _)]) ⟨rfl, rfl, rfl, rfl, rfl, trivial⟩ ?_
            refine GE_drawn (.st 0 (.st 1 (.st 2 (.st 3 (.st 4 (.st 5 (.st 6 (.st 7 (.st 8 (.st 9 (.st 10 (.ld 11 [] (.ld 12 [] (.st 13 .nil)))))))))))))) [11, 12] (by decide +kernel) ?_
            refine GT_st rfl rfl rfl rfl (V_move rfl rfl) ?_
            refine GT_st rfl rfl rfl rfl (V_move rfl rfl) ?_
            refine GT_st rfl rfl rfl rfl (V_move rfl rfl) ?_
            refine GT_st rfl rfl rfl rfl (V_index rfl rfl rfl Tryd.underlying31 sz_30 (k := i.toNat) (by omega) hip (hp.isSome hip)) ?_
            refine GT_st rfl rfl rfl rfl (V_loadN (vs := [_, _, _, _, _, _, _]) rfl rfl ag_30 sz_30 rfl (show CellsAt _ _ _ (ePrt (pt p i.toNat)) from hp.ats noM hip)) ?_
            refine GT_st rfl rfl rfl rfl (V_move rfl rfl) ?_
            refine GT_st rfl rfl rfl rfl (V_move rfl rfl) ?_
            refine GT_st rfl rfl rfl rfl (V_move rfl rfl) ?_
            refine GT_st rfl rfl rfl rfl (V_index rfl rfl rfl Tryd.underlying31 sz_30 (k := i.toNat) (by omega) hip (hp.isSome hip)) ?_
            first | refine GT_st rfl rfl rfl rfl (V_field rfl rfl fo_30_6) ?_ | refine GT_st rfl rfl rfl rfl (V_fieldA rfl rfl fo_30_6) ?_
            refine GT_st rfl rfl rfl rfl (V_load rfl rfl ag_2 (hp.at1 noM hip (show _ = some (I (pt p i.toNat).lev) from rfl))) ?_
            refine GT_call0 rfl rfl rfl rfl rfl rfl rfl rfl rn_64 (fun w hw => C_rsound (x := pt p i.toNat) (k := k) (lev := (pt p i.toNat).lev) hP.tks (hP.each i.toNat hip) (h.sh hw) (by omega) (by omega) (by omega) (by omega)) (GR_nil) ?_
            refine GT_store (vs := [_, _]) (l' := [_, _]) rfl rfl rfl rfl rfl rfl rfl sz_35 rfl rfl (Nat.le_of_ble_eq_true rfl) rfl (GR_nil) ?_
            refine GT_st rfl rfl rfl rfl (V_assign rfl rfl) ?_
            refine GT_nil ?_
            refine GE_ret Tryd.func41 ⟨_, _, ⟨_, rfl, fun w m => run_loadVar_agg (vs := [_, _]) ag_35 sz_35 rfl (fun j v hj => CellsAt.item rfl j v hj w m)⟩, rfl, rfl⟩ (fun w hw => ⟨?_, hw.nil⟩)
            have e : sndE l p i k = 0 := (by rw [sndE, if_pos q1, if_pos (by omega)]); rw [sndV, if_pos e, e]
set_option maxRecDepth 10000 in
theorem L_TakeRenders {i k : Int} (h : Tks w A l) (_hl : l.length ≤ c ∧ c ≤ maxLen) (hp : RdL w 7 ePrt A2 p) (_hx : p.length ≤ c2 ∧ c2 ≤ maxLen ∧ ∀ x ∈ p, x.wf) (_hi : I64 i) (_hk : I64 k) : Con0 Tryd.prog 13 [.slice A l.length c, .slice A2 p.length c2, I i, I k] w (.bool true) := by
  have hrl : (rendL l p).length ≤ 1000000 := by
    unfold rendL; split
    · rename_i e
      have hg : gErr l p = 0 := by
        rw [rErr] at e; split at e
        · rename_i hg; exact hg
        · rename_i hg; exact absurd e hg
      have := (gErr_zero.1 hg).fin
      rw [rend, mix_len]; omega
    · exact Nat.zero_le _
  refine Ret_of (vs := [_, _, _, _]) hm none' Tryd.func13 rfl Tryd.ntmps13 rfl ?_
  dsimp only [slotsOf]
  refine GE_seq ?_
  refine GE_plain (.st 0 .nil) rfl ?_
  refine GT_st rfl rfl rfl rfl (V_assign rfl rfl) ?_
  refine GT_nil ?_
  refine GE_seq ?_
  refine GE_seq ?_
  refine GE_plain (.st 0 (.st 1 (.ld 2 [] .nil))) rfl ?_
  refine GT_st rfl rfl rfl rfl (V_move rfl rfl) ?_
  refine GT_st rfl rfl rfl rfl (V_move rfl rfl) ?_
  refine GT_call0 rfl rfl rfl rfl rfl rfl rfl rfl rn_20 (fun w hw => C_great (h.sh hw)) (GR_nil) ?_
  refine GT_nil ?_
  first | refine GE_condNot rfl (fun q1 => ?_) (fun q1 => ?_) | refine GE_cond rfl (fun q1 => ?_) (fun q1 => ?_) | refine GE_condNotB rfl (fun q1 => ?_) (fun q1 => ?_) | refine GE_condB rfl (fun q1 => ?_) (fun q1 => ?_)
  · skip
    refine GE_seq ?_
    refine GE_slots (L' := []) trivial ?_
    refine GE_plain (.ld 0 [] (.st 1 .nil)) rfl ?_
    refine GT_call0 rfl rfl rfl rfl rfl rfl rfl rfl rn_16 (fun w hw => C_Works) (GR_nil) ?_
    refine GT_st rfl rfl rfl rfl (V_assign rfl rfl) ?_
    refine GT_nil ?_
    refine GE_ret Tryd.func13 rfl (fun w hw => ⟨?_, hw.nil⟩)
    rfl
  · skip
    refine GE_skip ?_
    refine GE_seq ?_
    refine GE_slots (L' := [(0, _), (1, _), (2, _), (3, _)]) ⟨rfl, rfl, rfl, rfl, trivial⟩ ?_
    refine GE_plain (.st 0 (.st 1 (.st 2 (.st 3 (.ld 4 [] (.st 5 (.st 6 (.st 7 (.ld 8 [] (.ld 9 [] (.st 10 .nil))))))))))) rfl ?_
    refine GT_st rfl rfl rfl rfl (V_move rfl rfl) ?_
    refine GT_st rfl rfl rfl rfl (V_move rfl rfl) ?_
    refine GT_st rfl rfl rfl rfl (V_move rfl rfl) ?_
    refine GT_st rfl rfl rfl rfl (V_move rfl rfl) ?_
    refine GT_call0 rfl rfl rfl rfl rfl rfl rfl rfl rn_23 (fun w hw => C_Sound (h.sh hw) (hp.sh hw)) (GR_nil) ?_
    refine GT_st rfl rfl rfl rfl (V_move rfl rfl) ?_
    refine GT_st rfl rfl rfl rfl (V_extract rfl rfl rfl) ?_
    refine GT_st rfl rfl rfl rfl (V_extract rfl rfl rfl) ?_
    refine GT_alloc rfl rfl rfl rfl rfl zc_35 (fun _ => GR_nil) (fun b9 => ?_)
    refine GT_store (vs := [_, _]) (l' := [_, _]) rfl rfl rfl rfl rfl rfl rfl sz_35 rfl rfl (Nat.le_of_ble_eq_true rfl) rfl (GR_nil) ?_
    refine GT_st rfl rfl rfl rfl (V_assign rfl rfl) ?_
    refine GT_nil ?_
    refine GE_seq ?_
    refine GE_slots (L' := [(0, _), (1, _), (2, _), (3, _), (9, _), (10, _)]) ⟨rfl, rfl, rfl, rfl, rfl, rfl, trivial⟩ ?_
    refine GE_plain (.st 0 (.st 1 (.st 2 (.st 3 (.ld 4 [] (.st 5 (.st 6 (.st 7 (.ld 8 [] (.ld 9 [] (.st 10 .nil))))))))))) rfl ?_
    refine GT_st rfl rfl rfl rfl (V_move rfl rfl) ?_
    refine GT_st rfl rfl rfl rfl (V_move rfl rfl) ?_
    refine GT_st rfl rfl rfl rfl (V_move rfl rfl) ?_
    refine GT_st rfl rfl rfl rfl (V_move rfl rfl) ?_
    refine GT_call0 rfl rfl rfl rfl rfl rfl rfl rfl rn_41 (fun w hw => C_rSound (h.sh hw) (hp.sh hw)) (GR_nil) ?_
    refine GT_st rfl rfl rfl rfl (V_move rfl rfl) ?_
    refine GT_st rfl rfl rfl rfl (V_extract rfl rfl rfl) ?_
    refine GT_st rfl rfl rfl rfl (V_extract rfl rfl rfl) ?_
    refine GT_alloc rfl rfl rfl rfl rfl zc_35 (fun _ => GR_nil) (fun b11 => ?_)
    refine GT_store (vs := [_, _]) (l' := [_, _]) rfl rfl rfl rfl rfl rfl rfl sz_35 rfl rfl (Nat.le_of_ble_eq_true rfl) rfl (GR_nil) ?_
    refine GT_st rfl rfl rfl rfl (V_assign rfl rfl) ?_
    refine GT_nil ?_
    refine GE_seq ?_
    refine GE_slots (L' := [(0, _), (1, _), (9, _), (10, _), (11, _), (12, _)]) ⟨rfl, rfl, rfl, rfl, rfl, rfl, trivial⟩ ?_
    refine GE_plain (.st 0 (.st 1 (.ld 2 [] (.st 3 (.st 4 (.st 5 (.st 6 (.st 7 .nil)))))))) rfl ?_
    refine GT_st rfl rfl rfl rfl (V_move rfl rfl) ?_
    refine GT_st rfl rfl rfl rfl (V_move rfl rfl) ?_
    refine GT_call rfl rfl rfl rfl rfl rfl rfl rfl rn_17 (fun w hw => C_Render (h.sh hw) (hp.sh hw)) (fun _ _ => GR_nil) (fun y hy => ?_)
    refine GT_st rfl rfl rfl rfl (V_move rfl rfl) ?_
    refine GT_st rfl rfl rfl rfl (V_extract rfl rfl rfl) ?_
    refine GT_st rfl rfl rfl rfl (V_extract rfl rfl rfl) ?_
    refine GT_st rfl rfl rfl rfl (V_assign rfl rfl) ?_
    refine GT_st rfl rfl rfl rfl (V_assign rfl rfl) ?_
    refine GT_nil ?_
    refine GE_seq ?_
    refine GE_slots (L' := [(0, _), (1, _), (9, _), (10, _), (11, _), (12, _), (13, _), (14, _)]) ⟨rfl, rfl, rfl, rfl, rfl, rfl, rfl, rfl, trivial⟩ ?_
    refine GE_plain (.st 0 (.st 1 (.ld 2 [] (.st 3 (.st 4 (.st 5 (.st 6 (.st 7 .nil)))))))) rfl ?_
    refine GT_st rfl rfl rfl rfl (V_move rfl rfl) ?_
    refine GT_st rfl rfl rfl rfl (V_move rfl rfl) ?_
    refine GT_call rfl rfl rfl rfl rfl rfl rfl rfl rn_42 (fun w hw => C_rRender (h.sh hw) (hp.sh hw)) (fun _ _ => GR_nil) (fun z hz => ?_)
    refine GT_st rfl rfl rfl rfl (V_move rfl rfl) ?_
    refine GT_st rfl rfl rfl rfl (V_extract rfl rfl rfl) ?_
    refine GT_st rfl rfl rfl rfl (V_extract rfl rfl rfl) ?_
    refine GT_st rfl rfl rfl rfl (V_assign rfl rfl) ?_
    refine GT_st rfl rfl rfl rfl (V_assign rfl rfl) ?_
    refine GT_nil ?_
    refine GE_seq ?_
    refine GE_slots (L' := [(0, _), (1, _), (9, _), (10, _), (11, _), (12, _), (13, _), (14, _), (15, _), (16, _)]) ⟨rfl, rfl, rfl, rfl, rfl, rfl, rfl, rfl, rfl, rfl, trivial⟩ ?_
    refine GE_plain (.st 0 (.st 1 (.ld 2 [] (.st 3 (.st 4 (.st 5 (.st 6 (.st 7 .nil)))))))) rfl ?_
    refine GT_st rfl rfl rfl rfl (V_move rfl rfl) ?_
    refine GT_st rfl rfl rfl rfl (V_move rfl rfl) ?_
    refine GT_call0 rfl rfl rfl rfl rfl rfl rfl rfl rn_34 (fun w hw => C_Headroom (h.sh hw) (hp.sh hw)) (GR_nil) ?_
    refine GT_st rfl rfl rfl rfl (V_move rfl rfl) ?_
    refine GT_st rfl rfl rfl rfl (V_extract rfl rfl rfl) ?_
    refine GT_st rfl rfl rfl rfl (V_extract rfl rfl rfl) ?_
    refine GT_st rfl rfl rfl rfl (V_assign rfl rfl) ?_
    refine GT_st rfl rfl rfl rfl (V_assign rfl rfl) ?_
    refine GT_nil ?_
    refine GE_seq ?_
    refine GE_slots (L' := [(0, _), (1, _), (9, _), (10, _), (11, _), (12, _), (13, _), (14, _), (15, _), (16, _), (17, _), (18, _)]) ⟨rfl, rfl, rfl, rfl, rfl, rfl, rfl, rfl, rfl, rfl, rfl, rfl, trivial⟩ ?_
    refine GE_plain (.st 0 (.st 1 (.ld 2 [] (.st 3 (.st 4 (.st 5 (.st 6 (.st 7 .nil)))))))) rfl ?_
    refine GT_st rfl rfl rfl rfl (V_move rfl rfl) ?_
    refine GT_st rfl rfl rfl rfl (V_move rfl rfl) ?_
    refine GT_call0 rfl rfl rfl rfl rfl rfl rfl rfl rn_43 (fun w hw => C_rHeadroom (h.sh hw) (hp.sh hw)) (GR_nil) ?_
    refine GT_st rfl rfl rfl rfl (V_move rfl rfl) ?_
    refine GT_st rfl rfl rfl rfl (V_extract rfl rfl rfl) ?_
    refine GT_st rfl rfl rfl rfl (V_extract rfl rfl rfl) ?_
    refine GT_st rfl rfl rfl rfl (V_assign rfl rfl) ?_
    refine GT_st rfl rfl rfl rfl (V_assign rfl rfl) ?_
    refine GT_nil ?_
    refine GE_seq ?_
    refine GE_slots (L' := [(9, _), (10, _), (11, _), (12, _), (13, _), (14, _), (15, _), (16, _), (17, _), (18, _), (19, _), (20, _)]) ⟨rfl, rfl, rfl, rfl, rfl, rfl, rfl, rfl, rfl, rfl, rfl, rfl, trivial⟩ ?_
    refine GE_plain (.st 0 (.st 1 (.st 2 (.st 3 (.st 4 (.st 5 (.st 6 (.st 7 (.st 8 (.st 9 (.st 10 (.ld 11 [] (.st 12 (.st 13 (.st 14 (.st 15 (.st 16 (.st 17 (.st 18 (.st 19 (.st 20 (.st 21 (.st 22 (.st 23 (.st 24 (.st 25 (.st 26 (.st 27 (.st 28 (.ld 29 [] (.st 30 (.st 31 .nil)))))))))))))))))))))))))))))))) rfl ?_
    refine GT_st rfl rfl rfl rfl (V_loadN (vs := [_, _]) rfl rfl ag_35 sz_35 rfl (CellsAt.item rfl)) ?_
    refine GT_st rfl rfl rfl rfl (V_loadN (vs := [_, _]) rfl rfl ag_35 sz_35 rfl (CellsAt.item rfl)) ?_
    refine GT_st rfl rfl rfl rfl (V_isT (V_eqlInts (zs := [_, _]) (zs' := [_, _]) rfl rfl rfl is_35 rfl rfl) rfl) ?_
    refine GT_st rfl rfl rfl rfl (V_move rfl rfl) ?_
    refine GT_st_g rfl rfl rfl rfl rfl rfl rfl (V_move rfl rfl) ?_
    refine GT_st_g rfl rfl rfl rfl rfl rfl rfl (V_move rfl rfl) ?_
    refine GT_st_g rfl rfl rfl rfl rfl rfl rfl (V_isT (V_eql rfl rfl rfl) rfl) ?_
    refine GT_st rfl rfl rfl rfl (V_pick_t rfl rfl rfl) ?_
    refine GT_st rfl rfl rfl rfl (V_move rfl rfl) ?_
    refine GT_st_g rfl rfl rfl rfl rfl rfl rfl (V_move rfl rfl) ?_
    refine GT_st_g rfl rfl rfl rfl rfl rfl rfl (V_move rfl rfl) ?_
    refine GT_call0_g rfl rfl rfl rfl rfl rfl rfl rfl rfl rfl rfl rn_22 (fun w hw => C_SameT rfl (by omega) (hy.rdH eSam_len hw) (hz.rdH eSam_len hw) rfl rfl) (GR_nil) ?_
    refine GT_st rfl rfl rfl rfl (V_pick_t rfl rfl rfl) ?_
    refine GT_st rfl rfl rfl rfl (V_move rfl rfl) ?_
    refine GT_st_g rfl rfl rfl rfl rfl rfl rfl (V_move rfl rfl) ?_
    refine GT_st_g rfl rfl rfl rfl rfl rfl rfl (V_move rfl rfl) ?_
    refine GT_st_g rfl rfl rfl rfl rfl rfl rfl (V_isT (V_eql rfl rfl rfl) rfl) ?_
    refine GT_st rfl rfl rfl rfl (V_pick_t rfl rfl rfl) ?_
    refine GT_st rfl rfl rfl rfl (V_move rfl rfl) ?_
    refine GT_st_g rfl rfl rfl rfl rfl rfl rfl (V_move rfl rfl) ?_
    refine GT_st_g rfl rfl rfl rfl rfl rfl rfl (V_move rfl rfl) ?_
    refine GT_st_g rfl rfl rfl rfl rfl rfl rfl (V_isT (V_eql rfl rfl rfl) rfl) ?_
    refine GT_st rfl rfl rfl rfl (V_pick_t rfl rfl rfl) ?_
    refine GT_st rfl rfl rfl rfl (V_move rfl rfl) ?_
    refine GT_st_g rfl rfl rfl rfl rfl rfl rfl (V_move rfl rfl) ?_
    refine GT_st_g rfl rfl rfl rfl rfl rfl rfl (V_move rfl rfl) ?_
    refine GT_st_g rfl rfl rfl rfl rfl rfl rfl (V_isT (V_eql rfl rfl rfl) rfl) ?_
    refine GT_st rfl rfl rfl rfl (V_pick_t rfl rfl rfl) ?_
    refine GT_st rfl rfl rfl rfl (V_move rfl rfl) ?_
    refine GT_call0_g rfl rfl rfl rfl rfl rfl rfl rfl rfl rfl rfl rn_16 (fun w hw => C_Works) (GR_nil) ?_
    refine GT_st rfl rfl rfl rfl (V_pick_t rfl rfl rfl) ?_
    refine GT_st rfl rfl rfl rfl (V_assign rfl rfl) ?_
    refine GT_nil ?_
    refine GE_ret Tryd.func13 rfl (fun w hw => ⟨?_, hw.nil⟩)
    rfl
end
end Go.Proofs.YtnklkobhjdkblaaDoor
