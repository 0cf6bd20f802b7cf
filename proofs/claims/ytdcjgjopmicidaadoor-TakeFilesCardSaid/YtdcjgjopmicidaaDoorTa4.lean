/- Programmes are rendered, walked. -/
import Derived.Test.YtdcjgjopmicidaaDoorTa3
namespace Go.Proofs.YtdcjgjopmicidaaDoor
open Go.Sx Go.Proofs Go.RowKit

section
variable {w : World} {A A2 : Option Addr} {c c2 : Nat} {l : List Tk} {p : List Prt}
theorem vR_bd (hg : ProgOk l p) : ∀ i k, i < p.length → 0 ≤ k → k < lng (pt p i) → (vR l p i k).bd 1000000 := by
  intro i k hi h0 h1
  have ho := hg.each i hi
  exact snd_bd hg.tks ho h0 h1 ho.lev.1 (by have := ho.lev.2; omega)
theorem mixN_bd8 {v : Nat → Int → Sam} (hg : ProgOk l p) (hv : ∀ i k, i < p.length → 0 ≤ k → k < lng (pt p i) → (v i k).bd 1000000) {i : Nat} (hi : i ≤ p.length) (t : Int) : (mixN p v i t).bd 100000000 := by
  have h := mixN_bd (B := 1000000) (by decide) i t hi hv
  have := hg.most
  exact Sam.bd.mono h (by omega)
set_option maxRecDepth 10000 in
set_option maxHeartbeats 2000000 in
theorem C_Render (h : Tks w A l) (hp : RdL w 7 ePrt A2 p) : Con Tryd.prog 12 [.slice A l.length c, .slice A2 p.length c2] w (fun y : Option Addr × Nat × Items => Own 2 45 eSam (rendL l p) (.slice y.1 (rendL l p).length y.2.1) y.2.2)
    (fun y => .tuple #[.slice y.1 (rendL l p).length y.2.1, I (rErr l p)]) (fun y => y.2.2) := by
  by_cases hg : gErr l p = 0
  · have hP := gErr_zero.1 hg
    have hfl := hP.fin
    have hf0 := fin_nonneg hP
    have hml : (rend l p).length = (fin p).toNat := mix_len p (vR l p)
    have hpm := hP.most
    refine Ret_of (vs := [_, _]) hm none' Tryd.func12 rfl Tryd.ntmps12 rfl ?_
    dsimp only [slotsOf]
    refine GE_seq ?_
    refine GE_plain (.st 0 (.st 1 .nil)) rfl ?_
    refine GT_st rfl rfl rfl rfl (V_assign rfl rfl) ?_
    refine GT_st rfl rfl rfl rfl (V_assign rfl rfl) ?_
    refine GT_nil ?_
    refine GE_seq ?_
    refine GE_plain (.st 0 (.st 1 (.ld 2 [] (.st 3 (.st 4 (.st 5 (.st 6 (.st 7 .nil)))))))) rfl ?_
    refine GT_st rfl rfl rfl rfl (V_move rfl rfl) ?_
    refine GT_st rfl rfl rfl rfl (V_move rfl rfl) ?_
    refine GT_call rfl rfl rfl rfl rfl rfl rfl rfl rn_24 (fun w hw => C_new_ok (h.sh hw) (hp.sh hw) hg) (fun _ _ => GR_nil) (fun y hy => ?_)
    refine GT_st rfl rfl rfl rfl (V_move rfl rfl) ?_
    refine GT_st rfl rfl rfl rfl (V_extract rfl rfl rfl) ?_
    refine GT_st rfl rfl rfl rfl (V_extract rfl rfl rfl) ?_
    refine GT_st rfl rfl rfl rfl (V_assign rfl rfl) ?_
    refine GT_st rfl rfl rfl rfl (V_assign rfl rfl) ?_
    refine GT_nil ?_
    refine GE_seq ?_
    refine GE_seq ?_
    refine GE_slots (L' := [(6, _), (7, _)]) ⟨rfl, rfl, trivial⟩ ?_
    refine GE_plain (.st 0 (.st 1 .nil)) rfl ?_
    refine GT_st rfl rfl rfl rfl (V_move rfl rfl) ?_
    refine GT_st rfl rfl rfl rfl (V_isF (V_neq rfl rfl rfl) (by decide)) ?_
    refine GT_nil ?_
    refine GE_cond_f rfl ?_
    refine GE_skip ?_
    refine GE_seq ?_
    refine GE_plain (.st 0 (.st 1 (.st 2 (.st 3 (.ld 4 [] (.st 5 .nil)))))) rfl ?_
    refine GT_st rfl rfl rfl rfl (V_move rfl rfl) ?_
    first | refine GT_st rfl rfl rfl rfl (V_nilCheck rfl rfl) ?_ | refine GT_st rfl rfl rfl rfl (V_nilCheck_func rfl rfl) ?_ | refine GT_st rfl rfl rfl rfl (V_nilCheck_yield rfl rfl) ?_
    first | refine GT_st rfl rfl rfl rfl (V_field rfl rfl fo_71_2) ?_ | refine GT_st rfl rfl rfl rfl (V_fieldA rfl rfl fo_71_2) ?_
    refine GT_st rfl rfl rfl rfl (V_load rfl rfl ag_3 (CellAt.item rfl)) ?_
    refine GT_makeSlice rfl rfl rfl rfl rfl rfl rfl Tryd.underlying22 zc_45 sz_45 by_45 (nn := (fin p).toNat) ⟨by omega, by omega, rfl⟩ ⟨by omega, by omega⟩ (fun _ => GR_nil) (fun b25 => ?_)
    refine GT_st rfl rfl rfl rfl (V_assign rfl rfl) ?_
    refine GT_nil ?_
    refine GE_seq ?_
    refine GE_seq ?_
    refine GE_slots (L' := [(6, _), (8, _)]) ⟨rfl, rfl, trivial⟩ ?_
    refine GE_plain (.st 0 (.st 1 (.st 2 (.st 3 (.st 4 (.st 5 .nil)))))) rfl ?_
    refine GT_st rfl rfl rfl rfl (V_move rfl rfl) ?_
    first | refine GT_st rfl rfl rfl rfl (V_nilCheck rfl rfl) ?_ | refine GT_st rfl rfl rfl rfl (V_nilCheck_func rfl rfl) ?_ | refine GT_st rfl rfl rfl rfl (V_nilCheck_yield rfl rfl) ?_
    first | refine GT_st rfl rfl rfl rfl (V_field rfl rfl fo_71_1) ?_ | refine GT_st rfl rfl rfl rfl (V_fieldA rfl rfl fo_71_1) ?_
    refine GT_st rfl rfl rfl rfl (V_load rfl rfl ag_69 (CellAt.item rfl)) ?_
    refine GT_st rfl rfl rfl rfl (V_len rfl Tryd.underlying69 rfl) ?_
    refine GT_st rfl rfl rfl rfl (V_move rfl rfl) ?_
    refine GT_nil ?_
    refine GE_block ?_
    refine GE_to (GE_loop (ι := Nat × Items) (fun x => p.length - x.1) (fun x => [(6, ptr y.1 0), (8, .slice (some ⟨b25, 0, none⟩) (fin p).toNat (fin p).toNat), (29, .slice y.2.1 p.length y.2.2.1), (30, I p.length), (31, I x.1)]) (fun x => (y.1, blk [.slice A l.length c, .slice y.2.1 p.length y.2.2.1, I (fin p)] 71) :: (y.2.2.2 ++ x.2)) (fun x => x.1 ≤ p.length ∧ Own 2 45 eSam (mixP p (vR l p) x.1) (.slice (some ⟨b25, 0, none⟩) (fin p).toNat (fin p).toNat) x.2) ?_ (0, [(b25, blk ((List.replicate (fin p).toNat [I 0, I 0]).flatten) 45)]) ?_) ⟨rfl, rfl, rfl, rfl, rfl, trivial⟩ (HS.cons rfl (HS.chunk HS.last))
    · rintro ⟨i, I1⟩ ⟨hi, hO⟩ ih; dsimp only at hi hO ih ⊢
      refine GE_seq ?_
      refine GE_plain (.st 0 .nil) rfl ?_
      refine GT_st rfl rfl rfl rfl (V_lss rfl rfl rfl) ?_
      refine GT_nil ?_
      refine GE_seq ?_
      first | refine GE_condNot rfl (fun h1 => ?_) (fun h1 => ?_) | refine GE_cond rfl (fun h1 => ?_) (fun h1 => ?_) | refine GE_condNotB rfl (fun h1 => ?_) (fun h1 => ?_) | refine GE_condB rfl (fun h1 => ?_) (fun h1 => ?_)
      · have hil : i < p.length := (by omega); have hbi := bgn_mono hP i hil; have hei := en_fin hP hil; have hlp := lng_pos (hP.each i hil); have hen : en p i = bgn p i + lng (pt p i) := rfl; obtain ⟨bn, hbn⟩ : ∃ bn : Nat, bgn p i = bn := ⟨(bgn p i).toNat, by omega⟩
        refine GE_skip ?_
        refine GE_seq ?_
        refine GE_block ?_
        refine GE_seq ?_
        refine GE_plain (.st 0 (.st 1 (.ld 2 [] (.ld 3 [] .nil)))) rfl ?_
        refine GT_st rfl rfl rfl rfl (V_index rfl rfl rfl Tryd.underlying69 sz_73 (k := i) rfl hil (hy.isSome (k := i) (by rw [plcs_len]; exact hil))) ?_
        refine GT_st rfl rfl rfl rfl (V_loadN (vs := [_, _, _, _, _, _, _, _, _, _]) rfl rfl ag_73 sz_73 rfl (CellsAt.ownE hy ePlc_len (by rw [plcs_len]; exact hil) (by rw [plcs_get hil, ePlc_plc]))) ?_
        refine GT_alloc rfl rfl rfl rfl rfl zc_73 (fun _ => GR_nil) (fun b10 => ?_)
        refine GT_store (vs := [_, _, _, _, _, _, _, _, _, _]) (l' := [_, _, _, _, _, _, _, _, _, _]) rfl rfl rfl rfl rfl rfl rfl sz_73 rfl rfl (Nat.le_of_ble_eq_true rfl) rfl (GR_nil) ?_
        refine GT_nil ?_
        refine GE_seq ?_
        refine GE_plain (.st 0 (.st 1 (.st 2 .nil))) rfl ?_
        first | refine GT_st rfl rfl rfl rfl (V_field rfl rfl fo_73_2) ?_ | refine GT_st rfl rfl rfl rfl (V_fieldA rfl rfl fo_73_2) ?_
        refine GT_st rfl rfl rfl rfl (V_load rfl rfl ag_3 (CellAt.item rfl)) ?_
        refine GT_st rfl rfl rfl rfl (V_assign rfl rfl) ?_
        refine GT_nil ?_
        refine GE_block ?_
        refine GE_to (GE_loop (ι := Nat × Items) (fun x => (fin p).toNat - x.1) (fun x => [(6, ptr y.1 0), (8, .slice (some ⟨b25, 0, none⟩) (fin p).toNat (fin p).toNat), (10, ptr b10 0), (11, I x.1), (29, .slice y.2.1 p.length y.2.2.1), (30, I p.length), (31, I i)]) (fun x => (b10, blk [I (pt p i).tk, I (pt p i).fr, I (pt p i).to, I (pt p i).gap, I (pt p i).inn, I (pt p i).out, I (pt p i).lev, I i, I (bgn p i), I (en p i)] 73) :: (y.1, blk [.slice A l.length c, .slice y.2.1 p.length y.2.2.1, I (fin p)] 71) :: (y.2.2.2 ++ x.2)) (fun x => bgn p i ≤ x.1 ∧ (x.1 : Int) ≤ en p i ∧ Own 2 45 eSam (mixS p (vR l p) i x.1) (.slice (some ⟨b25, 0, none⟩) (fin p).toNat (fin p).toNat) x.2) ?_ (bn, I1) ?_) ⟨rfl, rfl, rfl, lookI rfl hbn, rfl, rfl, rfl, trivial⟩ (HS.cons rfl (HS.cons rfl (HS.chunk HS.last)))
        · rintro ⟨t, I2⟩ ⟨ht1, ht2, hO2⟩ ih2; dsimp only at ht1 ht2 hO2 ih2 ⊢
          refine GE_seq ?_
          refine GE_seq ?_
          refine GE_plain (.st 0 (.st 1 (.st 2 (.st 3 .nil)))) rfl ?_
          refine GT_st rfl rfl rfl rfl (V_move rfl rfl) ?_
          first | refine GT_st rfl rfl rfl rfl (V_field rfl rfl fo_73_3) ?_ | refine GT_st rfl rfl rfl rfl (V_fieldA rfl rfl fo_73_3) ?_
          refine GT_st rfl rfl rfl rfl (V_load rfl rfl ag_3 (CellAt.item rfl)) ?_
          refine GT_st rfl rfl rfl rfl (V_lss rfl rfl rfl) ?_
          refine GT_nil ?_
          first | refine GE_condNot rfl (fun h2 => ?_) (fun h2 => ?_) | refine GE_cond rfl (fun h2 => ?_) (fun h2 => ?_) | refine GE_condNotB rfl (fun h2 => ?_) (fun h2 => ?_) | refine GE_condB rfl (fun h2 => ?_) (fun h2 => ?_)
          · have htl : t < (fin p).toNat := (by omega); have hml2 := mixS_len p (vR l p) i t; have hlv := (hP.each i hil).lev; have hnb := mixN_bd8 hP (vR_bd hP) (Nat.le_of_lt hil) (t : Int); have hvb := vR_bd hP i ((t : Int) - bgn p i) hil (by omega) (by omega)
            refine GE_skip ?_
            refine GE_seq ?_
            refine GE_block ?_
            refine GE_slots (L' := [(6, _), (8, _), (10, _), (11, _), (29, _), (30, _), (31, _)]) ⟨rfl, rfl, rfl, rfl, rfl, rfl, rfl, trivial⟩ ?_
            refine GE_drawn (.st 0 (.st 1 (.st 2 (.st 3 (.st 4 (.st 5 (.st 6 (.st 7 (.st 8 (.st 9 (.st 10 (.st 11 (.st 12 (.st 13 (.st 14 (.ld 15 [0, 1, 2, 3, 4, 5] (.ld 16 [0, 1] (.st 17 (.ld 18 [] .nil))))))))))))))))))) [15, 16, 18] (by decide +kernel) ?_
            refine GT_st rfl rfl rfl rfl (V_move rfl rfl) ?_
            refine GT_st rfl rfl rfl rfl (V_move rfl rfl) ?_
            refine GT_st rfl rfl rfl rfl (V_move rfl rfl) ?_
            refine GT_st rfl rfl rfl rfl (V_move rfl rfl) ?_
            refine GT_st rfl rfl rfl rfl (V_index rfl rfl rfl Tryd.underlying22 sz_45 (k := t) rfl htl rfl) ?_
            refine GT_st rfl rfl rfl rfl (V_loadN (vs := [_, _]) rfl rfl ag_45 sz_45 rfl (CellsAt.ownE hO2 eSam_len (by omega) (by rw [mixS_at htl]; rfl))) ?_
            refine GT_st rfl rfl rfl rfl (V_move rfl rfl) ?_
            refine GT_st rfl rfl rfl rfl (V_loadN (vs := [_, _, _, _, _, _, _, _, _, _]) rfl rfl ag_73 sz_73 rfl (CellsAt.item rfl)) ?_
            refine GT_st rfl rfl rfl rfl (V_move rfl rfl) ?_
            first | refine GT_st rfl rfl rfl rfl (V_field rfl rfl fo_73_2) ?_ | refine GT_st rfl rfl rfl rfl (V_fieldA rfl rfl fo_73_2) ?_
            refine GT_st rfl rfl rfl rfl (V_load rfl rfl ag_3 (CellAt.item rfl)) ?_
            refine GT_st rfl rfl rfl rfl (V_sub rfl rfl rfl (wrap_i64 (by omega))) ?_
            first | refine GT_st rfl rfl rfl rfl (V_field rfl rfl fo_73_0) ?_ | refine GT_st rfl rfl rfl rfl (V_fieldA rfl rfl fo_73_0) ?_
            first | refine GT_st rfl rfl rfl rfl (V_field rfl rfl fo_65_6) ?_ | refine GT_st rfl rfl rfl rfl (V_fieldA rfl rfl fo_65_6) ?_
            refine GT_st rfl rfl rfl rfl (V_load rfl rfl ag_2 (CellAt.item rfl)) ?_
            refine GT_call0 rfl rfl rfl rfl rfl rfl rfl rfl rn_26 (fun w hw => C_sound (i := i) (k := (t : Int) - bgn p i) (lev := (pt p i).lev) hil hP (by omega) (by omega) hlv.1 (by omega) (h.sh hw) (BlkAt.of hw)) (GR_cons rfl rfl rfl rfl (V_move rfl rfl) (GR_cons rfl rfl rfl rfl (V_move rfl rfl) (GR_cons rfl rfl rfl rfl (V_move rfl rfl) (GR_cons rfl rfl rfl rfl (V_move rfl rfl) (GR_cons rfl rfl rfl rfl (V_index rfl rfl rfl Tryd.underlying22 sz_45 (k := t) rfl htl rfl) (GR_cons rfl rfl rfl rfl (V_loadN (vs := [_, _]) rfl rfl ag_45 sz_45 rfl (CellsAt.ownE hO2 eSam_len (by omega) (by rw [mixS_at htl]; rfl))) (GR_nil))))))) ?_
            refine GT_call0 rfl rfl rfl rfl rfl rfl rfl rfl rn_25 (fun w hw => C_sum (a := mixN p (vR l p) i t) (b := snd l (pt p i) ((t : Int) - bgn p i) (pt p i).lev) hnb (Sam.bd.mono hvb (by decide))) (GR_cons rfl rfl rfl rfl (V_move rfl rfl) (GR_cons rfl rfl rfl rfl (V_move rfl rfl) (GR_nil))) ?_
            refine GT_st rfl rfl rfl rfl (V_index rfl rfl rfl Tryd.underlying22 sz_45 (k := t) rfl htl rfl) ?_
            refine GT_storeOwn (enc := eSam) (q := t) (xx := sad (mixN p (vR l p) i t) (vR l p i ((t : Int) - bgn p i))) rfl rfl rfl rfl rfl rfl rfl sz_45 hO2 eSam_len eSam_one (by omega) (by decide) (fun _ _ => GR_nil) (fun I3 hO3 => ?_)
            refine GT_nil ?_
            refine GE_inBlock ?_
            refine GE_slots (L' := [(6, _), (8, _), (10, _), (11, _), (29, _), (30, _), (31, _)]) ⟨rfl, rfl, rfl, rfl, rfl, rfl, rfl, trivial⟩ ?_
            rw [mixS_set htl ht1 h2] at hO3
            refine GE_plain (.st 0 (.st 1 (.ld 2 [] .nil))) rfl ?_
            refine GT_st rfl rfl rfl rfl (V_move rfl rfl) ?_
            refine GT_st rfl rfl rfl rfl (V_add rfl rfl rfl (wrap_i64 (by omega))) ?_
            refine GT_ldv rfl rfl rfl rfl rfl (V_assign rfl rfl) (GR_nil) ?_
            refine GT_nil ?_
            exact GE_to (ih2 (t + 1, I3) ⟨by dsimp only; omega, by dsimp only; omega, hO3⟩ (by dsimp only; omega)) ⟨rfl, rfl, rfl, rfl, rfl, rfl, rfl, trivial⟩ (HS.cons rfl (HS.cons rfl (HS.chunk HS.last)))
          · have het : (t : Int) = en p i := (by omega)
            refine GE_exit rfl ?_
            refine GE_inBlock ?_
            refine GE_slots (L' := [(6, _), (8, _), (29, _), (30, _), (31, _)]) ⟨rfl, rfl, rfl, rfl, rfl, trivial⟩ ?_
            refine GE_plain (.st 0 (.ld 1 [] .nil)) rfl ?_
            refine GT_st rfl rfl rfl rfl (V_add rfl rfl rfl (wrap_i64 (by omega))) ?_
            refine GT_ldv rfl rfl rfl rfl rfl (V_move rfl rfl) (GR_nil) ?_
            refine GT_nil ?_
            exact GE_to (ih (i + 1, I2) ⟨by dsimp only; omega, by rw [← mixS_end, ← het]; exact hO2⟩ (by dsimp only; omega)) ⟨rfl, rfl, rfl, rfl, rfl, trivial⟩ (HS.cons rfl (HS.chunk HS.last))
        · exact ⟨by dsimp only; omega, by dsimp only; omega, by dsimp only; rw [← hbn, mixS_begin]; exact hO⟩
      · obtain rfl : i = p.length := (by omega); rw [mixP_all] at hO
        refine GE_exit rfl ?_
        refine GE_seq ?_
        refine GE_seq ?_
        refine GE_slots (L' := [(8, _)]) ⟨rfl, trivial⟩ ?_
        refine GE_plain (.st 0 (.ld 1 [] (.st 2 .nil))) rfl ?_
        refine GT_st rfl rfl rfl rfl (V_move rfl rfl) ?_
        refine GT_call0 rfl rfl rfl rfl rfl rfl rfl rfl rn_27 (fun w hw => C_CheckSamplesN (s := rend l p) (mix_len p (vR l p)) (hO.rdH eSam_len hw)) (GR_nil) ?_
        refine GT_st rfl rfl rfl rfl (V_neq rfl rfl rfl) ?_
        refine GT_nil ?_
        first | refine GE_condNot rfl (fun h3 => ?_) (fun h3 => ?_) | refine GE_cond rfl (fun h3 => ?_) (fun h3 => ?_) | refine GE_condNotB rfl (fun h3 => ?_) (fun h3 => ?_) | refine GE_condB rfl (fun h3 => ?_) (fun h3 => ?_)
        · skip
          refine GE_seq ?_
          refine GE_slots (L' := []) trivial ?_
          refine GE_plain (.st 0 (.st 1 .nil)) rfl ?_
          refine GT_st rfl rfl rfl rfl (V_assign rfl rfl) ?_
          refine GT_st rfl rfl rfl rfl (V_assign rfl rfl) ?_
          refine GT_nil ?_
          refine GE_ret Tryd.func12 ⟨_, _, rfl, rfl, rfl⟩ (fun w hw => ?_)
          have e : rErr l p = 4 := (by rw [rErr, if_pos hg, if_neg h3]); have e2 : rendL l p = [] := if_neg (by omega); exact ⟨(none, 0, []), by dsimp only; rw [e2]; exact Own.nil, by dsimp only; rw [e, e2]; rfl, hw.nil⟩
        · skip
          refine GE_skip ?_
          refine GE_seq ?_
          refine GE_plain (.st 0 (.st 1 (.st 2 .nil))) rfl ?_
          refine GT_st rfl rfl rfl rfl (V_move rfl rfl) ?_
          refine GT_st rfl rfl rfl rfl (V_assign rfl rfl) ?_
          refine GT_st rfl rfl rfl rfl (V_assign rfl rfl) ?_
          refine GT_nil ?_
          refine GE_ret Tryd.func12 ⟨_, _, rfl, rfl, rfl⟩ (fun w hw => ?_)
          have e : rErr l p = 0 := (by rw [rErr, if_pos hg, if_pos h3]); have e2 : rendL l p = rend l p := if_pos e; exact ⟨(some ⟨b25, 0, none⟩, (fin p).toNat, I1), by dsimp only; rw [e2, hml]; exact hO, by dsimp only; rw [e, e2, hml], hw.chunk⟩
    · exact ⟨Nat.zero_le _, by rw [mixP_zero]; exact Own.made (x := (⟨0, 0⟩ : Sam)) rfl (by unfold maxLen; omega)⟩
  · have e : rErr l p = gErr l p := if_neg hg
    have e2 : rendL l p = [] := if_neg (by omega)
    refine Ret_of (vs := [_, _]) hm none' Tryd.func12 rfl Tryd.ntmps12 rfl ?_
    dsimp only [slotsOf]
    refine GE_seq ?_
    refine GE_plain (.st 0 (.st 1 .nil)) rfl ?_
    refine GT_st rfl rfl rfl rfl (V_assign rfl rfl) ?_
    refine GT_st rfl rfl rfl rfl (V_assign rfl rfl) ?_
    refine GT_nil ?_
    refine GE_seq ?_
    refine GE_plain (.st 0 (.st 1 (.ld 2 [] (.st 3 (.st 4 (.st 5 (.st 6 (.st 7 .nil)))))))) rfl ?_
    refine GT_st rfl rfl rfl rfl (V_move rfl rfl) ?_
    refine GT_st rfl rfl rfl rfl (V_move rfl rfl) ?_
    refine GT_call0 rfl rfl rfl rfl rfl rfl rfl rfl rn_24 (fun w hw => C_new_bad (h.sh hw) (hp.sh hw) hg) (GR_nil) ?_
    refine GT_st rfl rfl rfl rfl (V_move rfl rfl) ?_
    refine GT_st rfl rfl rfl rfl (V_extract rfl rfl rfl) ?_
    refine GT_st rfl rfl rfl rfl (V_extract rfl rfl rfl) ?_
    refine GT_st rfl rfl rfl rfl (V_assign rfl rfl) ?_
    refine GT_st rfl rfl rfl rfl (V_assign rfl rfl) ?_
    refine GT_nil ?_
    refine GE_seq ?_
    refine GE_seq ?_
    refine GE_slots (L' := [(6, _), (7, _)]) ⟨rfl, rfl, trivial⟩ ?_
    refine GE_plain (.st 0 (.st 1 .nil)) rfl ?_
    refine GT_st rfl rfl rfl rfl (V_move rfl rfl) ?_
    refine GT_st rfl rfl rfl rfl (V_isT (V_neq rfl rfl rfl) hg) ?_
    refine GT_nil ?_
    refine GE_cond_t rfl ?_
    refine GE_seq ?_
    refine GE_plain (.st 0 (.st 1 (.st 2 .nil))) rfl ?_
    refine GT_st rfl rfl rfl rfl (V_move rfl rfl) ?_
    refine GT_st rfl rfl rfl rfl (V_assign rfl rfl) ?_
    refine GT_st rfl rfl rfl rfl (V_assign rfl rfl) ?_
    refine GT_nil ?_
    refine GE_ret Tryd.func12 ⟨_, _, rfl, rfl, rfl⟩ (fun w hw => ?_)
    exact ⟨(none, 0, []), by dsimp only; rw [e2]; exact Own.nil, by dsimp only; rw [e, e2]; rfl, hw.nil⟩
end
end Go.Proofs.YtdcjgjopmicidaaDoor
