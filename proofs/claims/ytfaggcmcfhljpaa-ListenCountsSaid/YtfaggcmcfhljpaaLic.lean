/- ListenLeast and ListenCounts, walked. -/
import Derived.Test.YtfaggcmcfhljpaaLib
namespace Go.Proofs.Ytfaggcmcfhljpaa
open Go.Sx Go.Proofs

theorem tmod_bd {a b : Int} (ha : 0 ≤ a) (hb : 0 < b) : 0 ≤ a.tmod b ∧ a.tmod b < b := ⟨Int.tmod_nonneg b ha, Int.tmod_lt_of_pos a hb⟩
theorem holdsR_of {d : Dmd} {s c : Int} (hd : d.Ok) (hs : 0 ≤ s ∧ s ≤ d.n) (hc : -1 ≤ c ∧ c ≤ d.n) : holdsR d s c = (d.hold s c, 0) :=
  if_pos (by rw [Bool.and_eq_true, Bool.and_eq_true, betw_iff, betw_iff]; exact ⟨⟨Dmd.okB_iff.2 hd, hs⟩, hc⟩)
theorem samp_le {d d' : Dmd} {s c s' c' : Int} (h : Samp d s c) (h' : Samp d' s' c') (hd : d.Ok) (hd' : d'.Ok) (hn : d'.n = d.n) (hg : d'.g ≤ d.g) (hb : d.b ≤ d'.b) (hr : d.r ≤ d'.r) (ha : d.a ≤ d'.a) : s' ≤ s := by
  rcases Int.lt_or_le s s' with h1 | h1
  · have h2 := h'.nos s c h.hs.1 h1 h.hc.1 (by rw [hn]; exact h.hc.2)
    rw [hold_milder hd hd' hn hg hb hr ha h.hold] at h2; cases h2
  · exact h1
section
variable {w : World}
set_option maxRecDepth 10000 in
set_option maxHeartbeats 2000000 in
theorem L_ListenLeast {lot good bad r0 r1 a0 a1 sample most : Int} (w1 : (Lit.int .u8 lot).wf = true) (w2 : (Lit.int .u8 good).wf = true) (w3 : (Lit.int .u8 bad).wf = true) (w4 : (0 ≤ r0 ∧ r0 ≤ 65535) ∧ (0 ≤ r1 ∧ r1 ≤ 65535)) (w5 : (0 ≤ a0 ∧ a0 ≤ 65535) ∧ (0 ≤ a1 ∧ a1 ≤ 65535)) (w6 : (Lit.int .u8 sample).wf = true) (w7 : (Lit.int .u8 most).wf = true) :
    Con0 Try.prog 3 [.int .u8 lot, .int .u8 good, .int .u8 bad, .agg #[.int .u16 r0, .int .u16 r1], .agg #[.int .u16 a0, .int .u16 a1], .int .u8 sample, .int .u8 most] w (.bool true) := by
  have w1 := u8_of w1
  have w2 := u8_of w2
  have w3 := u8_of w3
  have w6 := u8_of w6
  have w7 := u8_of w7
  obtain ⟨⟨wr0, wr0'⟩, wr1, wr1'⟩ := w4
  obtain ⟨⟨wa0, wa0'⟩, wa1, wa1'⟩ := w5
  have t1 := tmod_bd (b := 30) w1.1 (by decide)
  have t2 := tmod_bd (b := 1001) wr0 (by decide)
  have t3 := tmod_bd (b := 1001) wa0 (by decide)
  have t4 := tmod_bd (b := 100) wr1 (by decide)
  have t5 := tmod_bd (b := 100) wa1 (by decide)
  refine Ret_of (vs := [_, _, _, _, _, _, _]) hm none' Try.func3 rfl Try.ntmps3 rfl ?_
  dsimp only [slotsOf]
  refine GE_seq ?_
  refine GE_plain (.ld 0 [] (.ld 1 [] (.st 2 .nil))) rfl ?_
  refine GT_box (z := [_, _]) rfl rfl rfl rfl rfl rfl rfl (fun _ => GR_nil) (fun b10 => ?_)
  refine GT_box (z := [_, _]) rfl rfl rfl rfl rfl rfl rfl (fun _ => GR_nil) (fun b11 => ?_)
  refine GT_st rfl rfl rfl rfl (V_assign rfl rfl) ?_
  refine GT_nil ?_
  refine GE_seq ?_
  refine GE_plain (.st 0 (.st 1 (.st 2 (.st 3 (.st 4 .nil))))) rfl ?_
  refine GT_st rfl rfl rfl rfl (V_move rfl rfl) ?_
  refine GT_st rfl rfl rfl rfl (V_convII rfl rfl (by rw [Try.underlying5]; rfl) Try.underlying3 (wrap_i64 (by omega))) ?_
  refine GT_st rfl rfl rfl rfl (V_rem rfl rfl rfl (by omega)) ?_
  refine GT_st rfl rfl rfl rfl (V_add rfl rfl rfl (wrap_i64 (by omega))) ?_
  refine GT_st rfl rfl rfl rfl (V_assign rfl rfl) ?_
  refine GT_nil ?_
  refine GE_seq ?_
  refine GE_slots (L' := [(1, _), (2, _), (5, _), (6, _), (10, _), (11, _), (15, _)]) ⟨rfl, rfl, rfl, rfl, rfl, rfl, rfl, trivial⟩ ?_
  obtain ⟨n, hn, hn1, hn2⟩ : ∃ n, 1 + lot.tmod 30 = n ∧ 1 ≤ n ∧ n ≤ 30 := ⟨_, rfl, by omega, by omega⟩; rw [hn]; have t6 := tmod_bd (b := n) w3.1 (by omega); have t7 := tmod_bd (b := n + 1) w7.1 (by omega)
  refine GE_plain (.st 0 (.st 1 (.st 2 (.st 3 (.st 4 (.st 5 .nil)))))) rfl ?_
  refine GT_st rfl rfl rfl rfl (V_move rfl rfl) ?_
  refine GT_st rfl rfl rfl rfl (V_convII rfl rfl (by rw [Try.underlying5]; rfl) Try.underlying3 (wrap_i64 (by omega))) ?_
  refine GT_st rfl rfl rfl rfl (V_move rfl rfl) ?_
  refine GT_st rfl rfl rfl rfl (V_rem rfl rfl rfl (by omega)) ?_
  refine GT_st rfl rfl rfl rfl (V_add rfl rfl rfl (wrap_i64 (by omega))) ?_
  refine GT_st rfl rfl rfl rfl (V_assign rfl rfl) ?_
  refine GT_nil ?_
  refine GE_seq ?_
  refine GE_slots (L' := [(1, _), (5, _), (6, _), (10, _), (11, _), (15, _), (16, _)]) ⟨rfl, rfl, rfl, rfl, rfl, rfl, rfl, trivial⟩ ?_
  obtain ⟨b, hb, hb1, hb2⟩ : ∃ b, 1 + bad.tmod n = b ∧ 1 ≤ b ∧ b ≤ n := ⟨_, rfl, by omega, by omega⟩; rw [hb]; have t8 := tmod_bd (b := b) w2.1 (by omega); have t9 := tmod_bd (b := n - b + 1) w7.1 (by omega)
  refine GE_plain (.st 0 (.st 1 (.st 2 (.st 3 (.st 4 .nil))))) rfl ?_
  refine GT_st rfl rfl rfl rfl (V_move rfl rfl) ?_
  refine GT_st rfl rfl rfl rfl (V_convII rfl rfl (by rw [Try.underlying5]; rfl) Try.underlying3 (wrap_i64 (by omega))) ?_
  refine GT_st rfl rfl rfl rfl (V_move rfl rfl) ?_
  refine GT_st rfl rfl rfl rfl (V_rem rfl rfl rfl (by omega)) ?_
  refine GT_st rfl rfl rfl rfl (V_assign rfl rfl) ?_
  refine GT_nil ?_
  refine GE_seq ?_
  refine GE_slots (L' := [(5, _), (6, _), (10, _), (11, _), (15, _), (16, _), (17, _)]) ⟨rfl, rfl, rfl, rfl, rfl, rfl, rfl, trivial⟩ ?_
  obtain ⟨g, hg, hg1, hg2⟩ : ∃ g, good.tmod b = g ∧ 0 ≤ g ∧ g < b := ⟨_, rfl, by omega, by omega⟩; rw [hg]; have t10 := tmod_bd (b := g + 1) w6.1 (by omega)
  refine GE_drawn (.st 0 (.st 1 (.st 2 (.st 3 (.st 4 (.st 5 (.st 6 (.st 7 (.st 8 (.st 9 .nil)))))))))) [] (by decide +kernel) ?_
  first | refine GT_st rfl rfl rfl rfl (V_indexArr (kk := 0) rfl rfl rfl Try.underlying23 sz_22 rfl (by omega)) ?_ | refine GT_st rfl rfl rfl rfl (V_indexArrA (kk := 0) rfl rfl rfl Try.underlying23 sz_22 rfl (by omega)) ?_
  refine GT_st rfl rfl rfl rfl (V_load rfl rfl ag_22 (CellAt.item rfl)) ?_
  refine GT_st rfl rfl rfl rfl (V_convII rfl rfl (by rw [Try.underlying22]; rfl) Try.underlying2 (wrap_i64 (by omega))) ?_
  refine GT_st rfl rfl rfl rfl (V_rem rfl rfl rfl (by omega)) ?_
  first | refine GT_st rfl rfl rfl rfl (V_indexArr (kk := 0) rfl rfl rfl Try.underlying23 sz_22 rfl (by omega)) ?_ | refine GT_st rfl rfl rfl rfl (V_indexArrA (kk := 0) rfl rfl rfl Try.underlying23 sz_22 rfl (by omega)) ?_
  refine GT_st rfl rfl rfl rfl (V_load rfl rfl ag_22 (CellAt.item rfl)) ?_
  refine GT_st rfl rfl rfl rfl (V_convII rfl rfl (by rw [Try.underlying22]; rfl) Try.underlying2 (wrap_i64 (by omega))) ?_
  refine GT_st rfl rfl rfl rfl (V_rem rfl rfl rfl (by omega)) ?_
  refine GT_st rfl rfl rfl rfl (V_assign rfl rfl) ?_
  refine GT_st rfl rfl rfl rfl (V_assign rfl rfl) ?_
  refine GT_nil ?_
  refine GE_seq ?_
  refine GE_slots (L' := [(5, _), (6, _), (10, _), (11, _), (15, _), (16, _), (17, _), (18, _), (19, _)]) ⟨rfl, rfl, rfl, rfl, rfl, rfl, rfl, rfl, rfl, trivial⟩ ?_
  obtain ⟨r, hr, hr1, hr2⟩ : ∃ r, r0.tmod 1001 = r ∧ 0 ≤ r ∧ r ≤ 1000 := ⟨_, rfl, by omega, by omega⟩; obtain ⟨a, ha, ha1, ha2⟩ : ∃ a, a0.tmod 1001 = a ∧ 0 ≤ a ∧ a ≤ 1000 := ⟨_, rfl, by omega, by omega⟩; rw [hr, ha]; have hd : (⟨n, g, b, r, a⟩ : Dmd).Ok := ⟨by dsimp only; omega, hg1, by dsimp only; omega, ⟨hr1, hr2⟩, ⟨ha1, ha2⟩⟩; have hck := Dmd.chk_zero.2 hd
  refine GE_plain (.st 0 (.st 1 (.st 2 (.st 3 (.st 4 (.ld 5 [] (.st 6 (.st 7 (.st 8 (.st 9 (.st 10 (.st 11 (.st 12 .nil))))))))))))) rfl ?_
  refine GT_st rfl rfl rfl rfl (V_move rfl rfl) ?_
  refine GT_st rfl rfl rfl rfl (V_move rfl rfl) ?_
  refine GT_st rfl rfl rfl rfl (V_move rfl rfl) ?_
  refine GT_st rfl rfl rfl rfl (V_move rfl rfl) ?_
  refine GT_st rfl rfl rfl rfl (V_move rfl rfl) ?_
  refine GT_call rfl rfl rfl rfl rfl rfl rfl rfl rn_11 (fun w hw => C_listen_Sampling (d := ⟨n, g, b, r, a⟩)) (fun _ _ => GR_nil) (fun y hy => ?_)
  have hS := hy.1 hck; rw [hck]; obtain ⟨s, c⟩ := y; dsimp only at hS ⊢; have hs := hS.hs; have hc := hS.hc; dsimp only at hs hc
  refine GT_st rfl rfl rfl rfl (V_move rfl rfl) ?_
  refine GT_st rfl rfl rfl rfl (V_extract rfl rfl rfl) ?_
  refine GT_st rfl rfl rfl rfl (V_extract rfl rfl rfl) ?_
  refine GT_st rfl rfl rfl rfl (V_extract rfl rfl rfl) ?_
  refine GT_st rfl rfl rfl rfl (V_assign rfl rfl) ?_
  refine GT_st rfl rfl rfl rfl (V_assign rfl rfl) ?_
  refine GT_st rfl rfl rfl rfl (V_assign rfl rfl) ?_
  refine GT_nil ?_
  refine GE_seq ?_
  refine GE_seq ?_
  refine GE_slots (L' := [(5, _), (6, _), (10, _), (11, _), (15, _), (16, _), (17, _), (18, _), (19, _), (20, _), (21, _), (22, _)]) ⟨rfl, rfl, rfl, rfl, rfl, rfl, rfl, rfl, rfl, rfl, rfl, rfl, trivial⟩ ?_
  refine GE_plain (.st 0 (.st 1 (.st 2 (.st 3 (.st 4 (.st 5 (.st 6 (.st 7 (.st 8 (.st 9 (.st 10 (.st 11 (.st 12 (.st 13 (.st 14 (.st 15 (.st 16 (.st 17 (.st 18 (.st 19 .nil)))))))))))))))))))) rfl ?_
  refine GT_st rfl rfl rfl rfl (V_move rfl rfl) ?_
  refine GT_st rfl rfl rfl rfl (V_isF (V_neq rfl rfl rfl) (by decide)) ?_
  refine GT_st rfl rfl rfl rfl (V_move rfl rfl) ?_
  refine GT_st_g rfl rfl rfl rfl rfl rfl rfl (V_move rfl rfl) ?_
  refine GT_st_g rfl rfl rfl rfl rfl rfl rfl (V_isF (V_lss rfl rfl rfl) (by omega)) ?_
  refine GT_st rfl rfl rfl rfl (V_pick_f rfl rfl rfl) ?_
  refine GT_st rfl rfl rfl rfl (V_move rfl rfl) ?_
  refine GT_st_g rfl rfl rfl rfl rfl rfl rfl (V_move rfl rfl) ?_
  refine GT_st_g rfl rfl rfl rfl rfl rfl rfl (V_move rfl rfl) ?_
  refine GT_st_g rfl rfl rfl rfl rfl rfl rfl (V_isF (V_gtr rfl rfl rfl) (by omega)) ?_
  refine GT_st rfl rfl rfl rfl (V_pick_f rfl rfl rfl) ?_
  refine GT_st rfl rfl rfl rfl (V_move rfl rfl) ?_
  refine GT_st_g rfl rfl rfl rfl rfl rfl rfl (V_move rfl rfl) ?_
  refine GT_st_g rfl rfl rfl rfl rfl rfl rfl (V_isF (V_lss rfl rfl rfl) (by omega)) ?_
  refine GT_st rfl rfl rfl rfl (V_pick_f rfl rfl rfl) ?_
  refine GT_st rfl rfl rfl rfl (V_move rfl rfl) ?_
  refine GT_st_g rfl rfl rfl rfl rfl rfl rfl (V_move rfl rfl) ?_
  refine GT_st_g rfl rfl rfl rfl rfl rfl rfl (V_move rfl rfl) ?_
  refine GT_st_g rfl rfl rfl rfl rfl rfl rfl (V_isF (V_gtr rfl rfl rfl) (by omega)) ?_
  refine GT_st rfl rfl rfl rfl (V_pick_f rfl rfl rfl) ?_
  refine GT_nil ?_
  refine GE_cond_f rfl ?_
  refine GE_skip ?_
  refine GE_seq ?_
  refine GE_slots (L' := [(5, _), (6, _), (10, _), (11, _), (15, _), (16, _), (17, _), (18, _), (19, _), (20, _), (21, _)]) ⟨rfl, rfl, rfl, rfl, rfl, rfl, rfl, rfl, rfl, rfl, rfl, trivial⟩ ?_
  refine GE_plain (.st 0 (.st 1 (.st 2 (.st 3 (.st 4 (.st 5 (.st 6 (.ld 7 [] (.st 8 (.st 9 (.st 10 (.st 11 (.st 12 .nil))))))))))))) rfl ?_
  refine GT_st rfl rfl rfl rfl (V_move rfl rfl) ?_
  refine GT_st rfl rfl rfl rfl (V_move rfl rfl) ?_
  refine GT_st rfl rfl rfl rfl (V_move rfl rfl) ?_
  refine GT_st rfl rfl rfl rfl (V_move rfl rfl) ?_
  refine GT_st rfl rfl rfl rfl (V_move rfl rfl) ?_
  refine GT_st rfl rfl rfl rfl (V_move rfl rfl) ?_
  refine GT_st rfl rfl rfl rfl (V_move rfl rfl) ?_
  refine GT_call0 rfl rfl rfl rfl rfl rfl rfl rfl rn_12 (fun w hw => C_listen_Holds (d := ⟨n, g, b, r, a⟩) (s := s) (c := c)) (GR_nil) ?_
  rw [holdsR_of hd hs (by dsimp only; omega), hS.hold]
  refine GT_st rfl rfl rfl rfl (V_move rfl rfl) ?_
  refine GT_st rfl rfl rfl rfl (V_extract rfl rfl rfl) ?_
  refine GT_st rfl rfl rfl rfl (V_extract rfl rfl rfl) ?_
  refine GT_st rfl rfl rfl rfl (V_assign rfl rfl) ?_
  refine GT_st rfl rfl rfl rfl (V_assign rfl rfl) ?_
  refine GT_nil ?_
  refine GE_seq ?_
  refine GE_seq ?_
  refine GE_slots (L' := [(5, _), (6, _), (10, _), (11, _), (15, _), (16, _), (17, _), (18, _), (19, _), (20, _), (21, _), (22, _), (23, _)]) ⟨rfl, rfl, rfl, rfl, rfl, rfl, rfl, rfl, rfl, rfl, rfl, rfl, rfl, trivial⟩ ?_
  refine GE_plain (.st 0 (.st 1 (.st 2 (.st 3 (.st 4 (.st 5 .nil)))))) rfl ?_
  refine GT_st rfl rfl rfl rfl (V_move rfl rfl) ?_
  refine GT_st rfl rfl rfl rfl (V_isF (V_neq rfl rfl rfl) (by decide)) ?_
  refine GT_st rfl rfl rfl rfl (V_move rfl rfl) ?_
  refine GT_st_g rfl rfl rfl rfl rfl rfl rfl (V_move rfl rfl) ?_
  first | refine GT_st_g rfl rfl rfl rfl rfl rfl rfl (V_not rfl rfl) ?_ | refine GT_st_g rfl rfl rfl rfl rfl rfl rfl (V_notB rfl rfl) ?_
  refine GT_st rfl rfl rfl rfl (V_pick_f rfl rfl rfl) ?_
  refine GT_nil ?_
  refine GE_cond_f rfl ?_
  refine GE_skip ?_
  refine GE_cut (ι := Unit) (fun u => [(5, .int .u8 sample), (6, .int .u8 most), (10, ptr b10 0), (11, ptr b11 0), (15, I n), (16, I b), (17, I g), (18, I r), (19, I a), (20, I s), (21, I c)]) (fun u => [(b11, blk [.int .u16 a0, .int .u16 a1] 23), (b10, blk [.int .u16 r0, .int .u16 r1] 23)]) (fun u => True) ?_ (fun hk15 => ?_)
  · intro u _
    refine GE_cut (ι := Unit) (fun u => [(5, .int .u8 sample), (6, .int .u8 most), (10, ptr b10 0), (11, ptr b11 0), (15, I n), (16, I b), (17, I g), (18, I r), (19, I a), (20, I s)]) (fun u => [(b11, blk [.int .u16 a0, .int .u16 a1] 23), (b10, blk [.int .u16 r0, .int .u16 r1] 23)]) (fun u => True) ?_ (fun hk19 => ?_)
    · intro u _
      refine GE_seq ?_
      refine GE_plain (.st 0 (.st 1 (.st 2 (.st 3 (.st 4 (.st 5 (.st 6 (.st 7 (.st 8 (.st 9 (.st 10 (.st 11 (.st 12 (.st 13 (.st 14 (.st 15 (.st 16 (.ld 17 [] (.st 18 (.st 19 (.st 20 (.st 21 (.st 22 (.st 23 (.st 24 .nil))))))))))))))))))))))))) rfl ?_
      refine GT_st rfl rfl rfl rfl (V_move rfl rfl) ?_
      refine GT_st rfl rfl rfl rfl (V_move rfl rfl) ?_
      refine GT_st rfl rfl rfl rfl (V_move rfl rfl) ?_
      refine GT_st rfl rfl rfl rfl (V_move rfl rfl) ?_
      first | refine GT_st rfl rfl rfl rfl (V_indexArr (kk := 1) rfl rfl rfl Try.underlying23 sz_22 rfl (by omega)) ?_ | refine GT_st rfl rfl rfl rfl (V_indexArrA (kk := 1) rfl rfl rfl Try.underlying23 sz_22 rfl (by omega)) ?_
      refine GT_st rfl rfl rfl rfl (V_load rfl rfl ag_22 (CellAt.item rfl)) ?_
      refine GT_st rfl rfl rfl rfl (V_convII rfl rfl (by rw [Try.underlying22]; rfl) Try.underlying2 (wrap_i64 (by omega))) ?_
      refine GT_st rfl rfl rfl rfl (V_rem rfl rfl rfl (by omega)) ?_
      refine GT_st rfl rfl rfl rfl (V_add rfl rfl rfl (wrap_i64 (by omega))) ?_
      refine GT_st rfl rfl rfl rfl (V_min rfl rfl rfl) ?_
      refine GT_st rfl rfl rfl rfl (V_move rfl rfl) ?_
      first | refine GT_st rfl rfl rfl rfl (V_indexArr (kk := 1) rfl rfl rfl Try.underlying23 sz_22 rfl (by omega)) ?_ | refine GT_st rfl rfl rfl rfl (V_indexArrA (kk := 1) rfl rfl rfl Try.underlying23 sz_22 rfl (by omega)) ?_
      refine GT_st rfl rfl rfl rfl (V_load rfl rfl ag_22 (CellAt.item rfl)) ?_
      refine GT_st rfl rfl rfl rfl (V_convII rfl rfl (by rw [Try.underlying22]; rfl) Try.underlying2 (wrap_i64 (by omega))) ?_
      refine GT_st rfl rfl rfl rfl (V_rem rfl rfl rfl (by omega)) ?_
      refine GT_st rfl rfl rfl rfl (V_add rfl rfl rfl (wrap_i64 (by omega))) ?_
      refine GT_st rfl rfl rfl rfl (V_min rfl rfl rfl) ?_
      refine GT_call rfl rfl rfl rfl rfl rfl rfl rfl rn_11 (fun w hw => C_listen_Sampling (d := ⟨n, g, b, min 1000 (r + r1.tmod 100), min 1000 (a + a1.tmod 100)⟩)) (fun _ _ => GR_nil) (fun y2 hy2 => ?_)
      have hd2 : (⟨n, g, b, min 1000 (r + r1.tmod 100), min 1000 (a + a1.tmod 100)⟩ : Dmd).Ok := ⟨by dsimp only; omega, hg1, by dsimp only; omega, by dsimp only; omega, by dsimp only; omega⟩; have hck2 := Dmd.chk_zero.2 hd2; have hS2 := hy2.1 hck2; rw [hck2]; have hle1 := samp_le hS hS2 hd hd2 rfl (Int.le_refl _) (Int.le_refl _) (by dsimp only; omega) (by dsimp only; omega)
      refine GT_st rfl rfl rfl rfl (V_move rfl rfl) ?_
      refine GT_st rfl rfl rfl rfl (V_extract rfl rfl rfl) ?_
      refine GT_st rfl rfl rfl rfl (V_extract rfl rfl rfl) ?_
      refine GT_st rfl rfl rfl rfl (V_extract rfl rfl rfl) ?_
      refine GT_st rfl rfl rfl rfl (V_assign rfl rfl) ?_
      refine GT_st rfl rfl rfl rfl (V_assign rfl rfl) ?_
      refine GT_st rfl rfl rfl rfl (V_assign rfl rfl) ?_
      refine GT_nil ?_
      refine GE_seq ?_
      refine GE_slots (L' := [(5, _), (6, _), (15, _), (16, _), (17, _), (18, _), (19, _), (20, _), (22, _), (24, _)]) ⟨rfl, rfl, rfl, rfl, rfl, rfl, rfl, rfl, rfl, rfl, trivial⟩ ?_
      refine GE_drawn (.st 0 (.st 1 (.st 2 (.st 3 (.st 4 (.st 5 (.st 6 (.st 7 (.st 8 (.st 9 (.st 10 (.st 11 (.st 12 (.st 13 (.st 14 (.st 15 (.st 16 (.ld 17 [] (.st 18 (.st 19 (.st 20 (.st 21 (.st 22 (.st 23 (.st 24 .nil))))))))))))))))))))))))) [17] (by decide +kernel) ?_
      refine GT_st rfl rfl rfl rfl (V_move rfl rfl) ?_
      refine GT_st rfl rfl rfl rfl (V_move rfl rfl) ?_
      refine GT_st rfl rfl rfl rfl (V_convII rfl rfl (by rw [Try.underlying5]; rfl) Try.underlying3 (wrap_i64 (by omega))) ?_
      refine GT_st rfl rfl rfl rfl (V_move rfl rfl) ?_
      refine GT_st rfl rfl rfl rfl (V_add rfl rfl rfl (wrap_i64 (by omega))) ?_
      refine GT_st rfl rfl rfl rfl (V_rem rfl rfl rfl (by omega)) ?_
      refine GT_st rfl rfl rfl rfl (V_move rfl rfl) ?_
      refine GT_st rfl rfl rfl rfl (V_move rfl rfl) ?_
      refine GT_st rfl rfl rfl rfl (V_convII rfl rfl (by rw [Try.underlying5]; rfl) Try.underlying3 (wrap_i64 (by omega))) ?_
      refine GT_st rfl rfl rfl rfl (V_move rfl rfl) ?_
      refine GT_st rfl rfl rfl rfl (V_move rfl rfl) ?_
      refine GT_st rfl rfl rfl rfl (V_sub rfl rfl rfl (wrap_i64 (by omega))) ?_
      refine GT_st rfl rfl rfl rfl (V_add rfl rfl rfl (wrap_i64 (by omega))) ?_
      refine GT_st rfl rfl rfl rfl (V_rem rfl rfl rfl (by omega)) ?_
      refine GT_st rfl rfl rfl rfl (V_add rfl rfl rfl (wrap_i64 (by omega))) ?_
      refine GT_st rfl rfl rfl rfl (V_move rfl rfl) ?_
      refine GT_st rfl rfl rfl rfl (V_move rfl rfl) ?_
      refine GT_call rfl rfl rfl rfl rfl rfl rfl rfl rn_11 (fun w hw => C_listen_Sampling (d := ⟨n, sample.tmod (g + 1), b + most.tmod (n - b + 1), r, a⟩)) (fun _ _ => GR_nil) (fun y3 hy3 => ?_)
      have hd3 : (⟨n, sample.tmod (g + 1), b + most.tmod (n - b + 1), r, a⟩ : Dmd).Ok := ⟨by dsimp only; omega, by dsimp only; omega, by dsimp only; omega, ⟨hr1, hr2⟩, ⟨ha1, ha2⟩⟩; have hck3 := Dmd.chk_zero.2 hd3; have hS3 := hy3.1 hck3; rw [hck3]; have hle2 := samp_le hS hS3 hd hd3 rfl (by dsimp only; omega) (by dsimp only; omega) (Int.le_refl _) (Int.le_refl _)
      refine GT_st rfl rfl rfl rfl (V_move rfl rfl) ?_
      refine GT_st rfl rfl rfl rfl (V_extract rfl rfl rfl) ?_
      refine GT_st rfl rfl rfl rfl (V_extract rfl rfl rfl) ?_
      refine GT_st rfl rfl rfl rfl (V_extract rfl rfl rfl) ?_
      refine GT_st rfl rfl rfl rfl (V_assign rfl rfl) ?_
      refine GT_st rfl rfl rfl rfl (V_assign rfl rfl) ?_
      refine GT_st rfl rfl rfl rfl (V_assign rfl rfl) ?_
      refine GT_nil ?_
      refine GE_seq ?_
      refine GE_slots (L' := [(20, _), (22, _), (24, _), (26, _), (28, _)]) ⟨rfl, rfl, rfl, rfl, rfl, trivial⟩ ?_
      refine GE_plain (.st 0 (.st 1 (.st 2 (.st 3 (.st 4 (.st 5 (.st 6 (.st 7 (.st 8 (.st 9 (.st 10 (.st 11 (.st 12 (.st 13 (.st 14 (.st 15 (.st 16 (.ld 17 [] (.st 18 (.st 19 .nil)))))))))))))))))))) rfl ?_
      refine GT_st rfl rfl rfl rfl (V_move rfl rfl) ?_
      refine GT_st rfl rfl rfl rfl (V_isT (V_eql rfl rfl rfl) rfl) ?_
      refine GT_st rfl rfl rfl rfl (V_move rfl rfl) ?_
      refine GT_st_g rfl rfl rfl rfl rfl rfl rfl (V_move rfl rfl) ?_
      refine GT_st_g rfl rfl rfl rfl rfl rfl rfl (V_isT (V_eql rfl rfl rfl) rfl) ?_
      refine GT_st rfl rfl rfl rfl (V_pick_t rfl rfl rfl) ?_
      refine GT_st rfl rfl rfl rfl (V_move rfl rfl) ?_
      refine GT_st_g rfl rfl rfl rfl rfl rfl rfl (V_move rfl rfl) ?_
      refine GT_st_g rfl rfl rfl rfl rfl rfl rfl (V_move rfl rfl) ?_
      refine GT_st_g rfl rfl rfl rfl rfl rfl rfl (V_isT (V_leq rfl rfl rfl) hle1) ?_
      refine GT_st rfl rfl rfl rfl (V_pick_t rfl rfl rfl) ?_
      refine GT_st rfl rfl rfl rfl (V_move rfl rfl) ?_
      refine GT_st_g rfl rfl rfl rfl rfl rfl rfl (V_move rfl rfl) ?_
      refine GT_st_g rfl rfl rfl rfl rfl rfl rfl (V_move rfl rfl) ?_
      refine GT_st_g rfl rfl rfl rfl rfl rfl rfl (V_isT (V_leq rfl rfl rfl) hle2) ?_
      refine GT_st rfl rfl rfl rfl (V_pick_t rfl rfl rfl) ?_
      refine GT_st rfl rfl rfl rfl (V_move rfl rfl) ?_
      refine GT_call0_g rfl rfl rfl rfl rfl rfl rfl rfl rfl rfl rfl rn_13 (fun w hw => C_law09_Works) (GR_nil) ?_
      refine GT_st rfl rfl rfl rfl (V_pick_t rfl rfl rfl) ?_
      refine GT_st rfl rfl rfl rfl (V_assign rfl rfl) ?_
      refine GT_nil ?_
      refine GE_ret Try.func3 rfl (fun w hw => ⟨?_, hw.nil⟩)
      rfl
    · skip
      refine GE_seq ?_
      refine GE_plain (.st 0 (.st 1 .nil)) rfl ?_
      refine GT_st rfl rfl rfl rfl (V_move rfl rfl) ?_
      refine GT_st rfl rfl rfl rfl (V_gtr rfl rfl rfl) ?_
      refine GT_nil ?_
      first | refine GE_condNot rfl (fun h2 => ?_) (fun h2 => ?_) | refine GE_cond rfl (fun h2 => ?_) (fun h2 => ?_) | refine GE_condNotB rfl (fun h2 => ?_) (fun h2 => ?_) | refine GE_condB rfl (fun h2 => ?_) (fun h2 => ?_)
      · have t12 := tmod_bd (b := c) w7.1 h2
        refine GE_seq ?_
        refine GE_plain (.st 0 (.st 1 (.st 2 (.st 3 (.st 4 (.st 5 (.st 6 (.st 7 (.st 8 (.st 9 (.ld 10 [] (.st 11 (.st 12 (.st 13 (.st 14 (.st 15 .nil)))))))))))))))) rfl ?_
        refine GT_st rfl rfl rfl rfl (V_move rfl rfl) ?_
        refine GT_st rfl rfl rfl rfl (V_move rfl rfl) ?_
        refine GT_st rfl rfl rfl rfl (V_move rfl rfl) ?_
        refine GT_st rfl rfl rfl rfl (V_move rfl rfl) ?_
        refine GT_st rfl rfl rfl rfl (V_move rfl rfl) ?_
        refine GT_st rfl rfl rfl rfl (V_move rfl rfl) ?_
        refine GT_st rfl rfl rfl rfl (V_move rfl rfl) ?_
        refine GT_st rfl rfl rfl rfl (V_convII rfl rfl (by rw [Try.underlying5]; rfl) Try.underlying3 (wrap_i64 (by omega))) ?_
        refine GT_st rfl rfl rfl rfl (V_move rfl rfl) ?_
        refine GT_st rfl rfl rfl rfl (V_rem rfl rfl rfl (by omega)) ?_
        refine GT_call0 rfl rfl rfl rfl rfl rfl rfl rfl rn_12 (fun w hw => C_listen_Holds (d := ⟨n, g, b, r, a⟩) (s := s) (c := most.tmod c)) (GR_nil) ?_
        rw [holdsR_of hd hs (by dsimp only; omega), hS.noc _ t12.1 t12.2]
        refine GT_st rfl rfl rfl rfl (V_move rfl rfl) ?_
        refine GT_st rfl rfl rfl rfl (V_extract rfl rfl rfl) ?_
        refine GT_st rfl rfl rfl rfl (V_extract rfl rfl rfl) ?_
        refine GT_st rfl rfl rfl rfl (V_assign rfl rfl) ?_
        refine GT_st rfl rfl rfl rfl (V_assign rfl rfl) ?_
        refine GT_nil ?_
        refine GE_seq ?_
        refine GE_slots (L' := [(5, _), (6, _), (10, _), (11, _), (15, _), (16, _), (17, _), (18, _), (19, _), (20, _), (22, _), (23, _)]) ⟨rfl, rfl, rfl, rfl, rfl, rfl, rfl, rfl, rfl, rfl, rfl, rfl, trivial⟩ ?_
        refine GE_plain (.st 0 (.st 1 (.st 2 (.st 3 (.st 4 .nil))))) rfl ?_
        refine GT_st rfl rfl rfl rfl (V_move rfl rfl) ?_
        refine GT_st rfl rfl rfl rfl (V_isF (V_neq rfl rfl rfl) (by decide)) ?_
        refine GT_st rfl rfl rfl rfl (V_move rfl rfl) ?_
        refine GT_st_g rfl rfl rfl rfl rfl rfl rfl (V_move rfl rfl) ?_
        refine GT_st rfl rfl rfl rfl (V_pick_f rfl rfl rfl) ?_
        refine GT_nil ?_
        refine GE_cond_f rfl ?_
        refine GE_skip ?_
        exact GE_to (hk19 () trivial) ⟨rfl, rfl, rfl, rfl, rfl, rfl, rfl, rfl, rfl, rfl, trivial⟩ (HS.cons rfl (HS.cons rfl HS.nil))
      · skip
        refine GE_skip ?_
        exact GE_to (hk19 () trivial) ⟨rfl, rfl, rfl, rfl, rfl, rfl, rfl, rfl, rfl, rfl, trivial⟩ (HS.cons rfl (HS.cons rfl HS.nil))
  · skip
    refine GE_seq ?_
    refine GE_slots (L' := [(5, _), (6, _), (10, _), (11, _), (15, _), (16, _), (17, _), (18, _), (19, _), (20, _), (21, _)]) ⟨rfl, rfl, rfl, rfl, rfl, rfl, rfl, rfl, rfl, rfl, rfl, trivial⟩ ?_
    refine GE_plain (.st 0 (.st 1 .nil)) rfl ?_
    refine GT_st rfl rfl rfl rfl (V_move rfl rfl) ?_
    refine GT_st rfl rfl rfl rfl (V_gtr rfl rfl rfl) ?_
    refine GT_nil ?_
    first | refine GE_condNot rfl (fun h1 => ?_) (fun h1 => ?_) | refine GE_cond rfl (fun h1 => ?_) (fun h1 => ?_) | refine GE_condNotB rfl (fun h1 => ?_) (fun h1 => ?_) | refine GE_condB rfl (fun h1 => ?_) (fun h1 => ?_)
    · have t11 := tmod_bd (b := s) w6.1 h1
      refine GE_seq ?_
      refine GE_drawn (.st 0 (.st 1 (.st 2 (.st 3 (.st 4 (.st 5 (.st 6 (.st 7 (.st 8 (.st 9 (.st 10 (.st 11 (.st 12 (.st 13 (.ld 14 [] (.st 15 (.st 16 (.st 17 (.st 18 (.st 19 .nil)))))))))))))))))))) [14] (by decide +kernel) ?_
      refine GT_st rfl rfl rfl rfl (V_move rfl rfl) ?_
      refine GT_st rfl rfl rfl rfl (V_move rfl rfl) ?_
      refine GT_st rfl rfl rfl rfl (V_move rfl rfl) ?_
      refine GT_st rfl rfl rfl rfl (V_move rfl rfl) ?_
      refine GT_st rfl rfl rfl rfl (V_move rfl rfl) ?_
      refine GT_st rfl rfl rfl rfl (V_move rfl rfl) ?_
      refine GT_st rfl rfl rfl rfl (V_convII rfl rfl (by rw [Try.underlying5]; rfl) Try.underlying3 (wrap_i64 (by omega))) ?_
      refine GT_st rfl rfl rfl rfl (V_move rfl rfl) ?_
      refine GT_st rfl rfl rfl rfl (V_rem rfl rfl rfl (by omega)) ?_
      refine GT_st rfl rfl rfl rfl (V_move rfl rfl) ?_
      refine GT_st rfl rfl rfl rfl (V_convII rfl rfl (by rw [Try.underlying5]; rfl) Try.underlying3 (wrap_i64 (by omega))) ?_
      refine GT_st rfl rfl rfl rfl (V_move rfl rfl) ?_
      refine GT_st rfl rfl rfl rfl (V_add rfl rfl rfl (wrap_i64 (by omega))) ?_
      refine GT_st rfl rfl rfl rfl (V_rem rfl rfl rfl (by omega)) ?_
      refine GT_call0 rfl rfl rfl rfl rfl rfl rfl rfl rn_12 (fun w hw => C_listen_Holds (d := ⟨n, g, b, r, a⟩) (s := sample.tmod s) (c := most.tmod (n + 1))) (GR_nil) ?_
      rw [holdsR_of hd (by dsimp only; omega) (by dsimp only; omega), hS.nos _ _ t11.1 t11.2 t7.1 (by dsimp only; omega)]
      refine GT_st rfl rfl rfl rfl (V_move rfl rfl) ?_
      refine GT_st rfl rfl rfl rfl (V_extract rfl rfl rfl) ?_
      refine GT_st rfl rfl rfl rfl (V_extract rfl rfl rfl) ?_
      refine GT_st rfl rfl rfl rfl (V_assign rfl rfl) ?_
      refine GT_st rfl rfl rfl rfl (V_assign rfl rfl) ?_
      refine GT_nil ?_
      refine GE_seq ?_
      refine GE_slots (L' := [(5, _), (6, _), (10, _), (11, _), (15, _), (16, _), (17, _), (18, _), (19, _), (20, _), (21, _), (22, _), (23, _)]) ⟨rfl, rfl, rfl, rfl, rfl, rfl, rfl, rfl, rfl, rfl, rfl, rfl, rfl, trivial⟩ ?_
      refine GE_plain (.st 0 (.st 1 (.st 2 (.st 3 (.st 4 .nil))))) rfl ?_
      refine GT_st rfl rfl rfl rfl (V_move rfl rfl) ?_
      refine GT_st rfl rfl rfl rfl (V_isF (V_neq rfl rfl rfl) (by decide)) ?_
      refine GT_st rfl rfl rfl rfl (V_move rfl rfl) ?_
      refine GT_st_g rfl rfl rfl rfl rfl rfl rfl (V_move rfl rfl) ?_
      refine GT_st rfl rfl rfl rfl (V_pick_f rfl rfl rfl) ?_
      refine GT_nil ?_
      refine GE_cond_f rfl ?_
      refine GE_skip ?_
      exact GE_to (hk15 () trivial) ⟨rfl, rfl, rfl, rfl, rfl, rfl, rfl, rfl, rfl, rfl, rfl, trivial⟩ (HS.cons rfl (HS.cons rfl HS.nil))
    · skip
      refine GE_skip ?_
      exact GE_to (hk15 () trivial) ⟨rfl, rfl, rfl, rfl, rfl, rfl, rfl, rfl, rfl, rfl, rfl, trivial⟩ (HS.cons rfl (HS.cons rfl HS.nil))
theorem chooseR_of {n k : Int} (hn : 0 ≤ n ∧ n ≤ 50) (hk : 0 ≤ k ∧ k ≤ n) : chooseR n k = (choo n k, 0) := by
  unfold chooseR; rw [if_pos (by rw [Bool.and_eq_true, betw_iff, betw_iff]; exact ⟨hn, hk⟩), cho_choo hk.1]
theorem waysR_of {n b s c : Int} (hn : 0 ≤ n ∧ n ≤ 50) (hb : 0 ≤ b ∧ b ≤ n) (hs : 0 ≤ s ∧ s ≤ n) (hc : -1 ≤ c ∧ c ≤ n) : waysR n b s c = (ways n b s c, 0) := by
  unfold waysR; rw [if_pos (by simp only [Bool.and_eq_true, betw_iff]; exact ⟨⟨⟨hn, hb⟩, hs⟩, hc⟩)]
theorem choo_bd30 {n s : Int} (hn : n ≤ 30) : 0 ≤ choo n s ∧ choo n s ≤ 1073741824 := by
  unfold choo
  have h1 := ch_pow n.toNat s.toNat
  have h2 : 2 ^ n.toNat ≤ 2 ^ 30 := Nat.pow_le_pow_right (by decide) (by omega)
  have h3 : (2 : Nat) ^ 30 = 1073741824 := by decide
  omega
theorem ways_mono {n b s c : Int} (hc : 0 ≤ c) : ways n b s (c - 1) ≤ ways n b s c := by
  unfold ways
  have := wy_le (b := b.toNat) (m := (n - b).toNat) (s := s.toNat) (c := (c - 1 + 1).toNat) (d := (c + 1).toNat) (by omega)
  omega
theorem ways_end {n b s c : Int} (hb : 0 ≤ b ∧ b ≤ n) (hs : 0 ≤ s) (hc : min s b ≤ c) (hc0 : 0 ≤ c) : ways n b s c = choo n s := by
  unfold ways choo
  rw [wy_end (by omega), show b.toNat + (n - b).toNat = n.toNat by omega]
theorem ways_swap {n b s c : Int} (hb : 0 ≤ b ∧ b ≤ n) (hs : 0 ≤ s ∧ s ≤ n) : ways n b s c * choo n b = ways n s b c * choo n s := by
  unfold ways choo
  have := wy_swap (n := n.toNat) (b := b.toNat) (s := s.toNat) (by omega) (by omega) (c + 1).toNat
  rw [show n.toNat - b.toNat = (n - b).toNat by omega, show n.toNat - s.toNat = (n - s).toNat by omega] at this
  exact_mod_cast this
theorem ways_bad {n b s c : Int} (hb : 0 ≤ b ∧ b < n) : ways n (b + 1) s c ≤ ways n b s c := by
  unfold ways
  have := wy_bad b.toNat (n - (b + 1)).toNat s.toNat (c + 1).toNat
  rw [show b.toNat + 1 = (b + 1).toNat by omega, show (n - (b + 1)).toNat + 1 = (n - b).toNat by omega] at this
  omega
theorem choo_succ {n s : Int} (hn : 0 < s ∧ s < n) : choo (n - 1) (s - 1) + choo (n - 1) s = choo n s := by
  unfold choo
  obtain ⟨m, hm⟩ : ∃ m, n.toNat = m + 1 := ⟨n.toNat - 1, by omega⟩
  obtain ⟨k, hk⟩ : ∃ k, s.toNat = k + 1 := ⟨s.toNat - 1, by omega⟩
  rw [hm, hk, ch_succ, show (n - 1).toNat = m by omega, show (s - 1).toNat = k by omega]; push_cast; rfl
theorem ways_none {n b s : Int} : ways n b s (-1) = 0 := rfl
set_option maxRecDepth 10000 in
set_option maxHeartbeats 2000000 in
theorem L_ListenCounts {lot bad sample most : Int} (w1 : (Lit.int .u8 lot).wf = true) (w2 : (Lit.int .u8 bad).wf = true) (w3 : (Lit.int .u8 sample).wf = true) (w4 : (Lit.int .u8 most).wf = true) :
    Con0 Try.prog 4 [.int .u8 lot, .int .u8 bad, .int .u8 sample, .int .u8 most] w (.bool true) := by
  have w1 := u8_of w1
  have w2 := u8_of w2
  have w3 := u8_of w3
  have w4 := u8_of w4
  have t1 := tmod_bd (b := 31) w1.1 (by decide)
  refine Ret_of (vs := [_, _, _, _]) hm none' Try.func4 rfl Try.ntmps4 rfl ?_
  dsimp only [slotsOf]
  refine GE_seq ?_
  refine GE_plain (.st 0 .nil) rfl ?_
  refine GT_st rfl rfl rfl rfl (V_assign rfl rfl) ?_
  refine GT_nil ?_
  refine GE_seq ?_
  refine GE_plain (.st 0 (.st 1 (.st 2 (.st 3 .nil)))) rfl ?_
  refine GT_st rfl rfl rfl rfl (V_move rfl rfl) ?_
  refine GT_st rfl rfl rfl rfl (V_convII rfl rfl (by rw [Try.underlying5]; rfl) Try.underlying3 (wrap_i64 (by omega))) ?_
  refine GT_st rfl rfl rfl rfl (V_rem rfl rfl rfl (by omega)) ?_
  refine GT_st rfl rfl rfl rfl (V_assign rfl rfl) ?_
  refine GT_nil ?_
  refine GE_seq ?_
  refine GE_slots (L' := [(1, _), (2, _), (3, _), (9, _)]) ⟨rfl, rfl, rfl, rfl, trivial⟩ ?_
  obtain ⟨n, hn, hn1, hn2⟩ : ∃ n, lot.tmod 31 = n ∧ 0 ≤ n ∧ n ≤ 30 := ⟨_, rfl, by omega, by omega⟩; rw [hn]; have t2 := tmod_bd (b := n + 1) w2.1 (by omega); have t3 := tmod_bd (b := n + 1) w3.1 (by omega); have t4 := tmod_bd (b := n + 1) w4.1 (by omega)
  refine GE_drawn (.st 0 (.st 1 (.st 2 (.st 3 (.st 4 (.st 5 (.st 6 (.st 7 (.st 8 (.st 9 (.st 10 (.st 11 (.st 12 (.st 13 (.st 14 (.st 15 (.st 16 (.st 17 .nil)))))))))))))))))) [] (by decide +kernel) ?_
  refine GT_st rfl rfl rfl rfl (V_move rfl rfl) ?_
  refine GT_st rfl rfl rfl rfl (V_convII rfl rfl (by rw [Try.underlying5]; rfl) Try.underlying3 (wrap_i64 (by omega))) ?_
  refine GT_st rfl rfl rfl rfl (V_move rfl rfl) ?_
  refine GT_st rfl rfl rfl rfl (V_add rfl rfl rfl (wrap_i64 (by omega))) ?_
  refine GT_st rfl rfl rfl rfl (V_rem rfl rfl rfl (by omega)) ?_
  refine GT_st rfl rfl rfl rfl (V_move rfl rfl) ?_
  refine GT_st rfl rfl rfl rfl (V_convII rfl rfl (by rw [Try.underlying5]; rfl) Try.underlying3 (wrap_i64 (by omega))) ?_
  refine GT_st rfl rfl rfl rfl (V_move rfl rfl) ?_
  refine GT_st rfl rfl rfl rfl (V_add rfl rfl rfl (wrap_i64 (by omega))) ?_
  refine GT_st rfl rfl rfl rfl (V_rem rfl rfl rfl (by omega)) ?_
  refine GT_st rfl rfl rfl rfl (V_move rfl rfl) ?_
  refine GT_st rfl rfl rfl rfl (V_convII rfl rfl (by rw [Try.underlying5]; rfl) Try.underlying3 (wrap_i64 (by omega))) ?_
  refine GT_st rfl rfl rfl rfl (V_move rfl rfl) ?_
  refine GT_st rfl rfl rfl rfl (V_add rfl rfl rfl (wrap_i64 (by omega))) ?_
  refine GT_st rfl rfl rfl rfl (V_rem rfl rfl rfl (by omega)) ?_
  refine GT_st rfl rfl rfl rfl (V_assign rfl rfl) ?_
  refine GT_st rfl rfl rfl rfl (V_assign rfl rfl) ?_
  refine GT_st rfl rfl rfl rfl (V_assign rfl rfl) ?_
  refine GT_nil ?_
  refine GE_seq ?_
  refine GE_slots (L' := [(9, _), (10, _), (11, _), (12, _)]) ⟨rfl, rfl, rfl, rfl, trivial⟩ ?_
  obtain ⟨b, hb, hb1, hb2⟩ : ∃ b, bad.tmod (n + 1) = b ∧ 0 ≤ b ∧ b ≤ n := ⟨_, rfl, by omega, by omega⟩; obtain ⟨s, hs, hs1, hs2⟩ : ∃ s, sample.tmod (n + 1) = s ∧ 0 ≤ s ∧ s ≤ n := ⟨_, rfl, by omega, by omega⟩; obtain ⟨c, hc, hc1, hc2⟩ : ∃ c, most.tmod (n + 1) = c ∧ 0 ≤ c ∧ c ≤ n := ⟨_, rfl, by omega, by omega⟩; rw [hb, hs, hc]
  have q1 := choo_bd30 (s := s) hn2
  have q2 := choo_bd30 (s := b) hn2
  have q3 := ways_bd (n := n) (b := b) (s := s) (c := c) ⟨hb1, hb2⟩
  have q4 := ways_bd (n := n) (b := s) (s := b) (c := c) ⟨hs1, hs2⟩
  have q5 := ways_mono (n := n) (b := b) (s := s) hc1
  have q6 := ways_swap (c := c) ⟨hb1, hb2⟩ ⟨hs1, hs2⟩
  have q7 : 0 ≤ ways n b s c * choo n b ∧ ways n b s c * choo n b ≤ 1073741824 * 1073741824 := ⟨Int.mul_nonneg q3.1 q2.1, Int.mul_le_mul (by omega) q2.2 q2.1 (by decide)⟩
  have q8 : 0 ≤ ways n s b c * choo n s ∧ ways n s b c * choo n s ≤ 1073741824 * 1073741824 := (by rw [← q6]; exact q7)
  refine GE_plain (.st 0 (.st 1 (.ld 2 [] (.st 3 (.st 4 (.st 5 (.st 6 (.st 7 .nil)))))))) rfl ?_
  refine GT_st rfl rfl rfl rfl (V_move rfl rfl) ?_
  refine GT_st rfl rfl rfl rfl (V_move rfl rfl) ?_
  refine GT_call0 rfl rfl rfl rfl rfl rfl rfl rfl rn_14 (fun w hw => C_listen_Choose) (GR_nil) ?_
  rw [chooseR_of ⟨hn1, by omega⟩ ⟨hs1, hs2⟩]
  refine GT_st rfl rfl rfl rfl (V_move rfl rfl) ?_
  refine GT_st rfl rfl rfl rfl (V_extract rfl rfl rfl) ?_
  refine GT_st rfl rfl rfl rfl (V_extract rfl rfl rfl) ?_
  refine GT_st rfl rfl rfl rfl (V_assign rfl rfl) ?_
  refine GT_st rfl rfl rfl rfl (V_assign rfl rfl) ?_
  refine GT_nil ?_
  refine GE_seq ?_
  refine GE_slots (L' := [(9, _), (10, _), (11, _), (12, _), (13, _), (14, _)]) ⟨rfl, rfl, rfl, rfl, rfl, rfl, trivial⟩ ?_
  refine GE_plain (.st 0 (.st 1 (.ld 2 [] (.st 3 (.st 4 (.st 5 (.st 6 (.st 7 .nil)))))))) rfl ?_
  refine GT_st rfl rfl rfl rfl (V_move rfl rfl) ?_
  refine GT_st rfl rfl rfl rfl (V_move rfl rfl) ?_
  refine GT_call0 rfl rfl rfl rfl rfl rfl rfl rfl rn_14 (fun w hw => C_listen_Choose) (GR_nil) ?_
  rw [chooseR_of ⟨hn1, by omega⟩ ⟨hb1, hb2⟩]
  refine GT_st rfl rfl rfl rfl (V_move rfl rfl) ?_
  refine GT_st rfl rfl rfl rfl (V_extract rfl rfl rfl) ?_
  refine GT_st rfl rfl rfl rfl (V_extract rfl rfl rfl) ?_
  refine GT_st rfl rfl rfl rfl (V_assign rfl rfl) ?_
  refine GT_st rfl rfl rfl rfl (V_assign rfl rfl) ?_
  refine GT_nil ?_
  refine GE_seq ?_
  refine GE_slots (L' := [(9, _), (10, _), (11, _), (12, _), (13, _), (14, _), (15, _), (16, _)]) ⟨rfl, rfl, rfl, rfl, rfl, rfl, rfl, rfl, trivial⟩ ?_
  refine GE_plain (.st 0 (.st 1 (.st 2 (.st 3 (.ld 4 [] (.st 5 (.st 6 (.st 7 (.st 8 (.st 9 .nil)))))))))) rfl ?_
  refine GT_st rfl rfl rfl rfl (V_move rfl rfl) ?_
  refine GT_st rfl rfl rfl rfl (V_move rfl rfl) ?_
  refine GT_st rfl rfl rfl rfl (V_move rfl rfl) ?_
  refine GT_st rfl rfl rfl rfl (V_move rfl rfl) ?_
  refine GT_call0 rfl rfl rfl rfl rfl rfl rfl rfl rn_15 (fun w hw => C_listen_Ways) (GR_nil) ?_
  rw [waysR_of ⟨hn1, by omega⟩ ⟨hb1, hb2⟩ ⟨hs1, hs2⟩ (by omega)]
  refine GT_st rfl rfl rfl rfl (V_move rfl rfl) ?_
  refine GT_st rfl rfl rfl rfl (V_extract rfl rfl rfl) ?_
  refine GT_st rfl rfl rfl rfl (V_extract rfl rfl rfl) ?_
  refine GT_st rfl rfl rfl rfl (V_assign rfl rfl) ?_
  refine GT_st rfl rfl rfl rfl (V_assign rfl rfl) ?_
  refine GT_nil ?_
  refine GE_seq ?_
  refine GE_slots (L' := [(9, _), (10, _), (11, _), (12, _), (13, _), (14, _), (15, _), (16, _), (17, _), (18, _)]) ⟨rfl, rfl, rfl, rfl, rfl, rfl, rfl, rfl, rfl, rfl, trivial⟩ ?_
  refine GE_plain (.st 0 (.st 1 (.st 2 (.st 3 (.ld 4 [] (.st 5 (.st 6 (.st 7 (.st 8 (.st 9 .nil)))))))))) rfl ?_
  refine GT_st rfl rfl rfl rfl (V_move rfl rfl) ?_
  refine GT_st rfl rfl rfl rfl (V_move rfl rfl) ?_
  refine GT_st rfl rfl rfl rfl (V_move rfl rfl) ?_
  refine GT_st rfl rfl rfl rfl (V_move rfl rfl) ?_
  refine GT_call0 rfl rfl rfl rfl rfl rfl rfl rfl rn_15 (fun w hw => C_listen_Ways) (GR_nil) ?_
  rw [waysR_of ⟨hn1, by omega⟩ ⟨hs1, hs2⟩ ⟨hb1, hb2⟩ (by omega)]
  refine GT_st rfl rfl rfl rfl (V_move rfl rfl) ?_
  refine GT_st rfl rfl rfl rfl (V_extract rfl rfl rfl) ?_
  refine GT_st rfl rfl rfl rfl (V_extract rfl rfl rfl) ?_
  refine GT_st rfl rfl rfl rfl (V_assign rfl rfl) ?_
  refine GT_st rfl rfl rfl rfl (V_assign rfl rfl) ?_
  refine GT_nil ?_
  refine GE_seq ?_
  refine GE_slots (L' := [(9, _), (10, _), (11, _), (12, _), (13, _), (14, _), (15, _), (16, _), (17, _), (18, _), (19, _), (20, _)]) ⟨rfl, rfl, rfl, rfl, rfl, rfl, rfl, rfl, rfl, rfl, rfl, rfl, trivial⟩ ?_
  refine GE_plain (.st 0 (.st 1 (.st 2 (.st 3 (.st 4 (.ld 5 [] (.st 6 (.st 7 (.st 8 (.st 9 (.st 10 .nil))))))))))) rfl ?_
  refine GT_st rfl rfl rfl rfl (V_move rfl rfl) ?_
  refine GT_st rfl rfl rfl rfl (V_move rfl rfl) ?_
  refine GT_st rfl rfl rfl rfl (V_move rfl rfl) ?_
  refine GT_st rfl rfl rfl rfl (V_move rfl rfl) ?_
  refine GT_st rfl rfl rfl rfl (V_sub rfl rfl rfl (wrap_i64 (by omega))) ?_
  refine GT_call0 rfl rfl rfl rfl rfl rfl rfl rfl rn_15 (fun w hw => C_listen_Ways) (GR_nil) ?_
  rw [waysR_of ⟨hn1, by omega⟩ ⟨hb1, hb2⟩ ⟨hs1, hs2⟩ (by omega)]; dsimp only
  refine GT_st rfl rfl rfl rfl (V_move rfl rfl) ?_
  refine GT_st rfl rfl rfl rfl (V_extract rfl rfl rfl) ?_
  refine GT_st rfl rfl rfl rfl (V_extract rfl rfl rfl) ?_
  refine GT_st rfl rfl rfl rfl (V_assign rfl rfl) ?_
  refine GT_st rfl rfl rfl rfl (V_assign rfl rfl) ?_
  refine GT_nil ?_
  refine GE_cut (ι := Unit) (fun u => [(9, I n), (10, I b), (11, I s), (12, I c), (13, I (choo n s)), (17, I (ways n b s c))]) (fun u => []) (fun u => True) ?_ (fun hk10 => ?_)
  · intro u _
    refine GE_cut (ι := Unit) (fun u => [(9, I n), (10, I b), (11, I s), (13, I (choo n s))]) (fun u => []) (fun u => True) ?_ (fun hk14 => ?_)
    · intro u _
      refine GE_seq ?_
      refine GE_seq ?_
      refine GE_plain (.st 0 (.st 1 (.st 2 (.st 3 (.st 4 (.st 5 (.st 6 .nil))))))) rfl ?_
      refine GT_st rfl rfl rfl rfl (V_move rfl rfl) ?_
      refine GT_st rfl rfl rfl rfl (V_gtr rfl rfl rfl) ?_
      refine GT_st rfl rfl rfl rfl (V_move rfl rfl) ?_
      first | refine GT_splitNot (d := 156) rfl (fun h3 => ?_) (fun h3 => ?_) | refine GT_split (d := 156) rfl (fun h3 => ?_) (fun h3 => ?_) | refine GT_splitNotB (d := 156) rfl (fun h3 => ?_) (fun h3 => ?_) | refine GT_splitB (d := 156) rfl (fun h3 => ?_) (fun h3 => ?_)
      · skip
        refine GT_st_g rfl rfl rfl rfl rfl rfl rfl (V_move rfl rfl) ?_
        refine GT_st_g rfl rfl rfl rfl rfl rfl rfl (V_move rfl rfl) ?_
        refine GT_st_g rfl rfl rfl rfl rfl rfl rfl (V_lss rfl rfl rfl) ?_
        refine GT_st rfl rfl rfl rfl (V_pick_t rfl rfl rfl) ?_
        refine GT_nil ?_
        first | refine GE_condNot rfl (fun h4 => ?_) (fun h4 => ?_) | refine GE_cond rfl (fun h4 => ?_) (fun h4 => ?_) | refine GE_condNotB rfl (fun h4 => ?_) (fun h4 => ?_) | refine GE_condB rfl (fun h4 => ?_) (fun h4 => ?_)
        · have q9 := choo_succ ⟨h3, h4⟩; have q10 := choo_bd30 (n := n - 1) (s := s - 1) (by omega); have q11 := choo_bd30 (n := n - 1) (s := s) (by omega)
          refine GE_seq ?_
          refine GE_slots (L' := [(9, _), (10, _), (11, _), (13, _)]) ⟨rfl, rfl, rfl, rfl, trivial⟩ ?_
          refine GE_plain (.st 0 (.st 1 (.st 2 (.st 3 (.ld 4 [] (.st 5 (.st 6 (.st 7 (.st 8 (.st 9 .nil)))))))))) rfl ?_
          refine GT_st rfl rfl rfl rfl (V_move rfl rfl) ?_
          refine GT_st rfl rfl rfl rfl (V_sub rfl rfl rfl (wrap_i64 (by omega))) ?_
          refine GT_st rfl rfl rfl rfl (V_move rfl rfl) ?_
          refine GT_st rfl rfl rfl rfl (V_sub rfl rfl rfl (wrap_i64 (by omega))) ?_
          refine GT_call0 rfl rfl rfl rfl rfl rfl rfl rfl rn_14 (fun w hw => C_listen_Choose) (GR_nil) ?_
          rw [chooseR_of (by omega) (by omega)]
          refine GT_st rfl rfl rfl rfl (V_move rfl rfl) ?_
          refine GT_st rfl rfl rfl rfl (V_extract rfl rfl rfl) ?_
          refine GT_st rfl rfl rfl rfl (V_extract rfl rfl rfl) ?_
          refine GT_st rfl rfl rfl rfl (V_assign rfl rfl) ?_
          refine GT_st rfl rfl rfl rfl (V_assign rfl rfl) ?_
          refine GT_nil ?_
          refine GE_seq ?_
          refine GE_slots (L' := [(9, _), (10, _), (11, _), (13, _), (25, _), (26, _)]) ⟨rfl, rfl, rfl, rfl, rfl, rfl, trivial⟩ ?_
          refine GE_plain (.st 0 (.st 1 (.st 2 (.ld 3 [] (.st 4 (.st 5 (.st 6 (.st 7 (.st 8 .nil))))))))) rfl ?_
          refine GT_st rfl rfl rfl rfl (V_move rfl rfl) ?_
          refine GT_st rfl rfl rfl rfl (V_sub rfl rfl rfl (wrap_i64 (by omega))) ?_
          refine GT_st rfl rfl rfl rfl (V_move rfl rfl) ?_
          refine GT_call0 rfl rfl rfl rfl rfl rfl rfl rfl rn_14 (fun w hw => C_listen_Choose) (GR_nil) ?_
          rw [chooseR_of (by omega) (by omega)]; dsimp only
          refine GT_st rfl rfl rfl rfl (V_move rfl rfl) ?_
          refine GT_st rfl rfl rfl rfl (V_extract rfl rfl rfl) ?_
          refine GT_st rfl rfl rfl rfl (V_extract rfl rfl rfl) ?_
          refine GT_st rfl rfl rfl rfl (V_assign rfl rfl) ?_
          refine GT_st rfl rfl rfl rfl (V_assign rfl rfl) ?_
          refine GT_nil ?_
          refine GE_seq ?_
          refine GE_slots (L' := [(9, _), (10, _), (11, _), (13, _), (25, _), (26, _), (27, _), (28, _)]) ⟨rfl, rfl, rfl, rfl, rfl, rfl, rfl, rfl, trivial⟩ ?_
          refine GE_plain (.st 0 (.st 1 (.st 2 (.st 3 (.st 4 (.st 5 (.st 6 (.st 7 (.st 8 (.st 9 (.st 10 (.st 11 (.st 12 .nil))))))))))))) rfl ?_
          refine GT_st rfl rfl rfl rfl (V_move rfl rfl) ?_
          refine GT_st rfl rfl rfl rfl (V_isF (V_neq rfl rfl rfl) (by decide)) ?_
          refine GT_st rfl rfl rfl rfl (V_move rfl rfl) ?_
          refine GT_st_g rfl rfl rfl rfl rfl rfl rfl (V_move rfl rfl) ?_
          refine GT_st_g rfl rfl rfl rfl rfl rfl rfl (V_isF (V_neq rfl rfl rfl) (by decide)) ?_
          refine GT_st rfl rfl rfl rfl (V_pick_f rfl rfl rfl) ?_
          refine GT_st rfl rfl rfl rfl (V_move rfl rfl) ?_
          refine GT_st_g rfl rfl rfl rfl rfl rfl rfl (V_move rfl rfl) ?_
          refine GT_st_g rfl rfl rfl rfl rfl rfl rfl (V_move rfl rfl) ?_
          refine GT_st_g rfl rfl rfl rfl rfl rfl rfl (V_add rfl rfl rfl (wrap_i64 (by omega))) ?_
          refine GT_st_g rfl rfl rfl rfl rfl rfl rfl (V_move rfl rfl) ?_
          refine GT_st_g rfl rfl rfl rfl rfl rfl rfl (V_isF (V_neq rfl rfl rfl) (fun h => h q9)) ?_
          refine GT_st rfl rfl rfl rfl (V_pick_f rfl rfl rfl) ?_
          refine GT_nil ?_
          refine GE_cond_f rfl ?_
          refine GE_skip ?_
          refine GE_seq ?_
          refine GE_slots (L' := [(9, _), (10, _), (11, _)]) ⟨rfl, rfl, rfl, trivial⟩ ?_
          refine GE_plain (.st 0 (.st 1 (.st 2 (.ld 3 [] (.st 4 (.st 5 (.st 6 (.st 7 (.st 8 .nil))))))))) rfl ?_
          refine GT_st rfl rfl rfl rfl (V_move rfl rfl) ?_
          refine GT_st rfl rfl rfl rfl (V_move rfl rfl) ?_
          refine GT_st rfl rfl rfl rfl (V_move rfl rfl) ?_
          refine GT_call0 rfl rfl rfl rfl rfl rfl rfl rfl rn_15 (fun w hw => C_listen_Ways) (GR_nil) ?_
          rw [waysR_of ⟨hn1, by omega⟩ ⟨hb1, hb2⟩ ⟨hs1, hs2⟩ (by omega), ways_none]; dsimp only
          refine GT_st rfl rfl rfl rfl (V_move rfl rfl) ?_
          refine GT_st rfl rfl rfl rfl (V_extract rfl rfl rfl) ?_
          refine GT_st rfl rfl rfl rfl (V_extract rfl rfl rfl) ?_
          refine GT_st rfl rfl rfl rfl (V_assign rfl rfl) ?_
          refine GT_st rfl rfl rfl rfl (V_assign rfl rfl) ?_
          refine GT_nil ?_
          refine GE_seq ?_
          refine GE_slots (L' := [(29, _), (30, _)]) ⟨rfl, rfl, trivial⟩ ?_
          refine GE_plain (.st 0 (.st 1 (.st 2 (.st 3 (.st 4 (.st 5 (.st 6 (.ld 7 [] (.st 8 (.st 9 .nil)))))))))) rfl ?_
          refine GT_st rfl rfl rfl rfl (V_move rfl rfl) ?_
          refine GT_st rfl rfl rfl rfl (V_isT (V_eql rfl rfl rfl) (by decide)) ?_
          refine GT_st rfl rfl rfl rfl (V_move rfl rfl) ?_
          refine GT_st_g rfl rfl rfl rfl rfl rfl rfl (V_move rfl rfl) ?_
          refine GT_st_g rfl rfl rfl rfl rfl rfl rfl (V_isT (V_eql rfl rfl rfl) (by decide)) ?_
          refine GT_st rfl rfl rfl rfl (V_pick_t rfl rfl rfl) ?_
          refine GT_st rfl rfl rfl rfl (V_move rfl rfl) ?_
          refine GT_call0_g rfl rfl rfl rfl rfl rfl rfl rfl rfl rfl rfl rn_13 (fun w hw => C_law09_Works) (GR_nil) ?_
          refine GT_st rfl rfl rfl rfl (V_pick_t rfl rfl rfl) ?_
          refine GT_st rfl rfl rfl rfl (V_assign rfl rfl) ?_
          refine GT_nil ?_
          refine GE_ret Try.func4 rfl (fun w hw => ⟨?_, hw.nil⟩)
          rfl
        · skip
          refine GE_skip ?_
          refine GE_seq ?_
          refine GE_slots (L' := [(9, _), (10, _), (11, _)]) ⟨rfl, rfl, rfl, trivial⟩ ?_
          refine GE_plain (.st 0 (.st 1 (.st 2 (.ld 3 [] (.st 4 (.st 5 (.st 6 (.st 7 (.st 8 .nil))))))))) rfl ?_
          refine GT_st rfl rfl rfl rfl (V_move rfl rfl) ?_
          refine GT_st rfl rfl rfl rfl (V_move rfl rfl) ?_
          refine GT_st rfl rfl rfl rfl (V_move rfl rfl) ?_
          refine GT_call0 rfl rfl rfl rfl rfl rfl rfl rfl rn_15 (fun w hw => C_listen_Ways) (GR_nil) ?_
          rw [waysR_of ⟨hn1, by omega⟩ ⟨hb1, hb2⟩ ⟨hs1, hs2⟩ (by omega), ways_none]; dsimp only
          refine GT_st rfl rfl rfl rfl (V_move rfl rfl) ?_
          refine GT_st rfl rfl rfl rfl (V_extract rfl rfl rfl) ?_
          refine GT_st rfl rfl rfl rfl (V_extract rfl rfl rfl) ?_
          refine GT_st rfl rfl rfl rfl (V_assign rfl rfl) ?_
          refine GT_st rfl rfl rfl rfl (V_assign rfl rfl) ?_
          refine GT_nil ?_
          refine GE_seq ?_
          refine GE_slots (L' := [(29, _), (30, _)]) ⟨rfl, rfl, trivial⟩ ?_
          refine GE_plain (.st 0 (.st 1 (.st 2 (.st 3 (.st 4 (.st 5 (.st 6 (.ld 7 [] (.st 8 (.st 9 .nil)))))))))) rfl ?_
          refine GT_st rfl rfl rfl rfl (V_move rfl rfl) ?_
          refine GT_st rfl rfl rfl rfl (V_isT (V_eql rfl rfl rfl) (by decide)) ?_
          refine GT_st rfl rfl rfl rfl (V_move rfl rfl) ?_
          refine GT_st_g rfl rfl rfl rfl rfl rfl rfl (V_move rfl rfl) ?_
          refine GT_st_g rfl rfl rfl rfl rfl rfl rfl (V_isT (V_eql rfl rfl rfl) (by decide)) ?_
          refine GT_st rfl rfl rfl rfl (V_pick_t rfl rfl rfl) ?_
          refine GT_st rfl rfl rfl rfl (V_move rfl rfl) ?_
          refine GT_call0_g rfl rfl rfl rfl rfl rfl rfl rfl rfl rfl rfl rn_13 (fun w hw => C_law09_Works) (GR_nil) ?_
          refine GT_st rfl rfl rfl rfl (V_pick_t rfl rfl rfl) ?_
          refine GT_st rfl rfl rfl rfl (V_assign rfl rfl) ?_
          refine GT_nil ?_
          refine GE_ret Try.func4 rfl (fun w hw => ⟨?_, hw.nil⟩)
          rfl
      · skip
        refine GT_skip rfl rfl rfl rfl rfl (by decide) rfl rfl ?_
        refine GT_skip rfl rfl rfl rfl rfl (by decide) rfl rfl ?_
        refine GT_skip rfl rfl rfl rfl rfl (by decide) rfl rfl ?_
        refine GT_st rfl rfl rfl rfl (V_pick_f rfl rfl rfl) ?_
        refine GT_nil ?_
        refine GE_cond_f rfl ?_
        refine GE_skip ?_
        refine GE_seq ?_
        refine GE_slots (L' := [(9, _), (10, _), (11, _)]) ⟨rfl, rfl, rfl, trivial⟩ ?_
        refine GE_plain (.st 0 (.st 1 (.st 2 (.ld 3 [] (.st 4 (.st 5 (.st 6 (.st 7 (.st 8 .nil))))))))) rfl ?_
        refine GT_st rfl rfl rfl rfl (V_move rfl rfl) ?_
        refine GT_st rfl rfl rfl rfl (V_move rfl rfl) ?_
        refine GT_st rfl rfl rfl rfl (V_move rfl rfl) ?_
        refine GT_call0 rfl rfl rfl rfl rfl rfl rfl rfl rn_15 (fun w hw => C_listen_Ways) (GR_nil) ?_
        rw [waysR_of ⟨hn1, by omega⟩ ⟨hb1, hb2⟩ ⟨hs1, hs2⟩ (by omega), ways_none]; dsimp only
        refine GT_st rfl rfl rfl rfl (V_move rfl rfl) ?_
        refine GT_st rfl rfl rfl rfl (V_extract rfl rfl rfl) ?_
        refine GT_st rfl rfl rfl rfl (V_extract rfl rfl rfl) ?_
        refine GT_st rfl rfl rfl rfl (V_assign rfl rfl) ?_
        refine GT_st rfl rfl rfl rfl (V_assign rfl rfl) ?_
        refine GT_nil ?_
        refine GE_seq ?_
        refine GE_slots (L' := [(29, _), (30, _)]) ⟨rfl, rfl, trivial⟩ ?_
        refine GE_plain (.st 0 (.st 1 (.st 2 (.st 3 (.st 4 (.st 5 (.st 6 (.ld 7 [] (.st 8 (.st 9 .nil)))))))))) rfl ?_
        refine GT_st rfl rfl rfl rfl (V_move rfl rfl) ?_
        refine GT_st rfl rfl rfl rfl (V_isT (V_eql rfl rfl rfl) (by decide)) ?_
        refine GT_st rfl rfl rfl rfl (V_move rfl rfl) ?_
        refine GT_st_g rfl rfl rfl rfl rfl rfl rfl (V_move rfl rfl) ?_
        refine GT_st_g rfl rfl rfl rfl rfl rfl rfl (V_isT (V_eql rfl rfl rfl) (by decide)) ?_
        refine GT_st rfl rfl rfl rfl (V_pick_t rfl rfl rfl) ?_
        refine GT_st rfl rfl rfl rfl (V_move rfl rfl) ?_
        refine GT_call0_g rfl rfl rfl rfl rfl rfl rfl rfl rfl rfl rfl rn_13 (fun w hw => C_law09_Works) (GR_nil) ?_
        refine GT_st rfl rfl rfl rfl (V_pick_t rfl rfl rfl) ?_
        refine GT_st rfl rfl rfl rfl (V_assign rfl rfl) ?_
        refine GT_nil ?_
        refine GE_ret Try.func4 rfl (fun w hw => ⟨?_, hw.nil⟩)
        rfl
    · skip
      refine GE_seq ?_
      refine GE_plain (.st 0 (.st 1 (.st 2 .nil))) rfl ?_
      refine GT_st rfl rfl rfl rfl (V_move rfl rfl) ?_
      refine GT_st rfl rfl rfl rfl (V_move rfl rfl) ?_
      refine GT_st rfl rfl rfl rfl (V_lss rfl rfl rfl) ?_
      refine GT_nil ?_
      first | refine GE_condNot rfl (fun h2 => ?_) (fun h2 => ?_) | refine GE_cond rfl (fun h2 => ?_) (fun h2 => ?_) | refine GE_condNotB rfl (fun h2 => ?_) (fun h2 => ?_) | refine GE_condB rfl (fun h2 => ?_) (fun h2 => ?_)
      · skip
        refine GE_seq ?_
        refine GE_plain (.st 0 (.st 1 (.st 2 (.st 3 (.st 4 (.ld 5 [] (.st 6 (.st 7 (.st 8 (.st 9 (.st 10 .nil))))))))))) rfl ?_
        refine GT_st rfl rfl rfl rfl (V_move rfl rfl) ?_
        refine GT_st rfl rfl rfl rfl (V_move rfl rfl) ?_
        refine GT_st rfl rfl rfl rfl (V_add rfl rfl rfl (wrap_i64 (by omega))) ?_
        refine GT_st rfl rfl rfl rfl (V_move rfl rfl) ?_
        refine GT_st rfl rfl rfl rfl (V_move rfl rfl) ?_
        refine GT_call0 rfl rfl rfl rfl rfl rfl rfl rfl rn_15 (fun w hw => C_listen_Ways) (GR_nil) ?_
        rw [waysR_of ⟨hn1, by omega⟩ (by omega) ⟨hs1, hs2⟩ (by omega)]; dsimp only
        refine GT_st rfl rfl rfl rfl (V_move rfl rfl) ?_
        refine GT_st rfl rfl rfl rfl (V_extract rfl rfl rfl) ?_
        refine GT_st rfl rfl rfl rfl (V_extract rfl rfl rfl) ?_
        refine GT_st rfl rfl rfl rfl (V_assign rfl rfl) ?_
        refine GT_st rfl rfl rfl rfl (V_assign rfl rfl) ?_
        refine GT_nil ?_
        refine GE_seq ?_
        refine GE_slots (L' := [(9, _), (10, _), (11, _), (13, _), (17, _), (23, _), (24, _)]) ⟨rfl, rfl, rfl, rfl, rfl, rfl, rfl, trivial⟩ ?_
        refine GE_plain (.st 0 (.st 1 (.st 2 (.st 3 (.st 4 (.st 5 (.st 6 .nil))))))) rfl ?_
        refine GT_st rfl rfl rfl rfl (V_move rfl rfl) ?_
        refine GT_st rfl rfl rfl rfl (V_isF (V_neq rfl rfl rfl) (by decide)) ?_
        refine GT_st rfl rfl rfl rfl (V_move rfl rfl) ?_
        refine GT_st_g rfl rfl rfl rfl rfl rfl rfl (V_move rfl rfl) ?_
        refine GT_st_g rfl rfl rfl rfl rfl rfl rfl (V_move rfl rfl) ?_
        refine GT_st_g rfl rfl rfl rfl rfl rfl rfl (V_isF (V_gtr rfl rfl rfl) (by have := ways_bad (s := s) (c := c) ⟨hb1, h2⟩; omega)) ?_
        refine GT_st rfl rfl rfl rfl (V_pick_f rfl rfl rfl) ?_
        refine GT_nil ?_
        refine GE_cond_f rfl ?_
        refine GE_skip ?_
        exact GE_to (hk14 () trivial) ⟨rfl, rfl, rfl, rfl, trivial⟩ HS.nil
      · skip
        refine GE_skip ?_
        exact GE_to (hk14 () trivial) ⟨rfl, rfl, rfl, rfl, trivial⟩ HS.nil
  · skip
    refine GE_seq ?_
    refine GE_slots (L' := [(9, _), (10, _), (11, _), (12, _), (13, _), (14, _), (15, _), (16, _), (17, _), (18, _), (19, _), (20, _), (21, _), (22, _)]) ⟨rfl, rfl, rfl, rfl, rfl, rfl, rfl, rfl, rfl, rfl, rfl, rfl, rfl, rfl, trivial⟩ ?_
    refine GE_plain (.st 0 (.st 1 (.st 2 (.st 3 (.st 4 (.st 5 (.st 6 (.st 7 (.st 8 (.st 9 (.st 10 (.st 11 (.st 12 (.st 13 (.st 14 (.st 15 (.st 16 (.st 17 (.st 18 (.st 19 (.st 20 (.st 21 (.st 22 (.st 23 (.st 24 (.st 25 (.st 26 (.st 27 (.st 28 (.st 29 (.st 30 (.st 31 (.st 32 (.st 33 (.st 34 (.st 35 (.st 36 (.st 37 (.st 38 (.st 39 (.st 40 (.st 41 (.st 42 (.st 43 (.st 44 (.st 45 (.st 46 (.st 47 (.st 48 .nil))))))))))))))))))))))))))))))))))))))))))))))))) rfl ?_
    refine GT_st rfl rfl rfl rfl (V_move rfl rfl) ?_
    refine GT_st rfl rfl rfl rfl (V_isF (V_neq rfl rfl rfl) (by decide)) ?_
    refine GT_st rfl rfl rfl rfl (V_move rfl rfl) ?_
    refine GT_st_g rfl rfl rfl rfl rfl rfl rfl (V_move rfl rfl) ?_
    refine GT_st_g rfl rfl rfl rfl rfl rfl rfl (V_isF (V_neq rfl rfl rfl) (by decide)) ?_
    refine GT_st rfl rfl rfl rfl (V_pick_f rfl rfl rfl) ?_
    refine GT_st rfl rfl rfl rfl (V_move rfl rfl) ?_
    refine GT_st_g rfl rfl rfl rfl rfl rfl rfl (V_move rfl rfl) ?_
    refine GT_st_g rfl rfl rfl rfl rfl rfl rfl (V_isF (V_neq rfl rfl rfl) (by decide)) ?_
    refine GT_st rfl rfl rfl rfl (V_pick_f rfl rfl rfl) ?_
    refine GT_st rfl rfl rfl rfl (V_move rfl rfl) ?_
    refine GT_st_g rfl rfl rfl rfl rfl rfl rfl (V_move rfl rfl) ?_
    refine GT_st_g rfl rfl rfl rfl rfl rfl rfl (V_isF (V_neq rfl rfl rfl) (by decide)) ?_
    refine GT_st rfl rfl rfl rfl (V_pick_f rfl rfl rfl) ?_
    refine GT_st rfl rfl rfl rfl (V_move rfl rfl) ?_
    refine GT_st_g rfl rfl rfl rfl rfl rfl rfl (V_move rfl rfl) ?_
    refine GT_st_g rfl rfl rfl rfl rfl rfl rfl (V_isF (V_neq rfl rfl rfl) (by decide)) ?_
    refine GT_st rfl rfl rfl rfl (V_pick_f rfl rfl rfl) ?_
    refine GT_st rfl rfl rfl rfl (V_move rfl rfl) ?_
    refine GT_st_g rfl rfl rfl rfl rfl rfl rfl (V_move rfl rfl) ?_
    refine GT_st_g rfl rfl rfl rfl rfl rfl rfl (V_move rfl rfl) ?_
    refine GT_st_g rfl rfl rfl rfl rfl rfl rfl (V_isF (V_gtr rfl rfl rfl) (by omega)) ?_
    refine GT_st rfl rfl rfl rfl (V_pick_f rfl rfl rfl) ?_
    refine GT_st rfl rfl rfl rfl (V_move rfl rfl) ?_
    refine GT_st_g rfl rfl rfl rfl rfl rfl rfl (V_move rfl rfl) ?_
    refine GT_st_g rfl rfl rfl rfl rfl rfl rfl (V_move rfl rfl) ?_
    refine GT_st_g rfl rfl rfl rfl rfl rfl rfl (V_isF (V_gtr rfl rfl rfl) (by omega)) ?_
    refine GT_st rfl rfl rfl rfl (V_pick_f rfl rfl rfl) ?_
    refine GT_st rfl rfl rfl rfl (V_move rfl rfl) ?_
    refine GT_st_g rfl rfl rfl rfl rfl rfl rfl (V_move rfl rfl) ?_
    refine GT_st_g rfl rfl rfl rfl rfl rfl rfl (V_move rfl rfl) ?_
    refine GT_st_g rfl rfl rfl rfl rfl rfl rfl (V_move rfl rfl) ?_
    refine GT_st_g rfl rfl rfl rfl rfl rfl rfl (V_min rfl rfl rfl) ?_
    refine GT_st_g rfl rfl rfl rfl rfl rfl rfl (V_geq rfl rfl rfl) ?_
    refine GT_st_g rfl rfl rfl rfl rfl rfl rfl (V_move rfl rfl) ?_
    first | refine GT_splitNot (d := 120) rfl (fun h1 => ?_) (fun h1 => ?_) | refine GT_split (d := 120) rfl (fun h1 => ?_) (fun h1 => ?_) | refine GT_splitNotB (d := 120) rfl (fun h1 => ?_) (fun h1 => ?_) | refine GT_splitB (d := 120) rfl (fun h1 => ?_) (fun h1 => ?_)
    · have hwa := ways_end ⟨hb1, hb2⟩ hs1 (by omega) hc1
      refine GT_st_g rfl rfl rfl rfl rfl rfl rfl (V_move rfl rfl) ?_
      refine GT_st_g rfl rfl rfl rfl rfl rfl rfl (V_move rfl rfl) ?_
      refine GT_st_g rfl rfl rfl rfl rfl rfl rfl (V_isF (V_neq rfl rfl rfl) (fun h => h hwa)) ?_
      refine GT_st_g rfl rfl rfl rfl rfl rfl rfl (V_pick_t rfl rfl rfl) ?_
      refine GT_st rfl rfl rfl rfl (V_pick_f rfl rfl rfl) ?_
      refine GT_st rfl rfl rfl rfl (V_move rfl rfl) ?_
      refine GT_st_g rfl rfl rfl rfl rfl rfl rfl (V_move rfl rfl) ?_
      refine GT_st_g rfl rfl rfl rfl rfl rfl rfl (V_move rfl rfl) ?_
      refine GT_st_g rfl rfl rfl rfl rfl rfl rfl (V_mul rfl rfl rfl (wrap_i64 (by omega))) ?_
      refine GT_st_g rfl rfl rfl rfl rfl rfl rfl (V_move rfl rfl) ?_
      refine GT_st_g rfl rfl rfl rfl rfl rfl rfl (V_move rfl rfl) ?_
      refine GT_st_g rfl rfl rfl rfl rfl rfl rfl (V_mul rfl rfl rfl (wrap_i64 (by omega))) ?_
      refine GT_st_g rfl rfl rfl rfl rfl rfl rfl (V_isF (V_neq rfl rfl rfl) (fun h => h q6)) ?_
      refine GT_st rfl rfl rfl rfl (V_pick_f rfl rfl rfl) ?_
      refine GT_nil ?_
      refine GE_cond_f rfl ?_
      refine GE_skip ?_
      exact GE_to (hk10 () trivial) ⟨rfl, rfl, rfl, rfl, rfl, rfl, trivial⟩ HS.nil
    · skip
      refine GT_skip rfl rfl rfl rfl rfl (by decide) rfl rfl ?_
      refine GT_skip rfl rfl rfl rfl rfl (by decide) rfl rfl ?_
      refine GT_skip rfl rfl rfl rfl rfl (by decide) rfl rfl ?_
      refine GT_st_g rfl rfl rfl rfl rfl rfl rfl (V_pick_f rfl rfl rfl) ?_
      refine GT_st rfl rfl rfl rfl (V_pick_f rfl rfl rfl) ?_
      refine GT_st rfl rfl rfl rfl (V_move rfl rfl) ?_
      refine GT_st_g rfl rfl rfl rfl rfl rfl rfl (V_move rfl rfl) ?_
      refine GT_st_g rfl rfl rfl rfl rfl rfl rfl (V_move rfl rfl) ?_
      refine GT_st_g rfl rfl rfl rfl rfl rfl rfl (V_mul rfl rfl rfl (wrap_i64 (by omega))) ?_
      refine GT_st_g rfl rfl rfl rfl rfl rfl rfl (V_move rfl rfl) ?_
      refine GT_st_g rfl rfl rfl rfl rfl rfl rfl (V_move rfl rfl) ?_
      refine GT_st_g rfl rfl rfl rfl rfl rfl rfl (V_mul rfl rfl rfl (wrap_i64 (by omega))) ?_
      refine GT_st_g rfl rfl rfl rfl rfl rfl rfl (V_isF (V_neq rfl rfl rfl) (fun h => h q6)) ?_
      refine GT_st rfl rfl rfl rfl (V_pick_f rfl rfl rfl) ?_
      refine GT_nil ?_
      refine GE_cond_f rfl ?_
      refine GE_skip ?_
      exact GE_to (hk10 () trivial) ⟨rfl, rfl, rfl, rfl, rfl, rfl, trivial⟩ HS.nil
end
end Go.Proofs.Ytfaggcmcfhljpaa
