/- Sounds of samples, walked. -/
import Derived.Test.YtdcjgjopmicidaaDoorTa2
namespace Go.Proofs.YtdcjgjopmicidaaDoor
open Go.Sx Go.Proofs Go.RowKit

/-- a sound, and the error of Sound -/
def sndE (l : List Tk) (p : List Prt) (i k : Int) : Int := if gErr l p = 0 then (if 0 ≤ i ∧ i < (p.length : Int) ∧ 0 ≤ k ∧ k < lng (pt p i.toNat) then 0 else 3) else gErr l p
def sndV (l : List Tk) (p : List Prt) (i k : Int) : Sam := if sndE l p i k = 0 then snd l (pt p i.toNat) k (pt p i.toNat).lev else ⟨0, 0⟩
section
variable {w : World} {A A2 : Option Addr} {c c2 : Nat} {l : List Tk} {p : List Prt}
theorem C_new_ok (h : Tks w A l) (hp : RdL w 7 ePrt A2 p) (hg : gErr l p = 0) : Con Tryd.prog 24 [.slice A l.length c, .slice A2 p.length c2] w (fun y : Nat × Option Addr × Nat × Items => Own 10 73 ePlc (plcs p p.length) (.slice y.2.1 p.length y.2.2.1) y.2.2.2)
    (fun y => .tuple #[ptr y.1 0, I 0]) (fun y => (y.1, blk [.slice A l.length c, .slice y.2.1 p.length y.2.2.1, I (fin p)] 71) :: y.2.2.2) :=
  (C_new h hp).mono fun v w' hr => by
    rcases hr with ⟨_, b, A', c', I', hO, e, hs⟩ | ⟨hn, _⟩
    · exact ⟨(b, A', c', I'), hO, e, hs⟩
    · exact absurd hg hn
theorem C_new_bad (h : Tks w A l) (hp : RdL w 7 ePrt A2 p) (hg : ¬ gErr l p = 0) : Con0 Tryd.prog 24 [.slice A l.length c, .slice A2 p.length c2] w (.tuple #[.pointer none, I (gErr l p)]) :=
  (C_new h hp).mono fun v w' hr => by
    rcases hr with ⟨hn, _⟩ | ⟨_, e, hs⟩
    · exact absurd hn hg
    · exact ⟨e, hs⟩
theorem C_sum {a b : Sam} (ha : a.bd 100000000) (hb : b.bd 100000000) : Con0 Tryd.prog 25 [.agg #[I a.l, I a.r], .agg #[I b.l, I b.r]] w (.agg #[I (sad a b).l, I (sad a b).r]) := by
  unfold Sam.bd at ha hb
  refine Ret_of (vs := [_, _]) hm none' Tryd.func25 rfl Tryd.ntmps25 rfl ?_
  dsimp only [slotsOf]
  refine GE_seq ?_
  refine GE_plain (.ld 0 [] (.ld 1 [] (.ld 2 [] .nil))) rfl ?_
  refine GT_box (z := [_, _]) rfl rfl rfl rfl rfl rfl rfl (fun _ => GR_nil) (fun b2 => ?_)
  refine GT_box (z := [_, _]) rfl rfl rfl rfl rfl rfl rfl (fun _ => GR_nil) (fun b3 => ?_)
  refine GT_alloc rfl rfl rfl rfl rfl zc_45 (fun _ => GR_nil) (fun b4 => ?_)
  refine GT_nil ?_
  refine GE_seq ?_
  refine GE_plain (.st 0 (.st 1 (.st 2 (.st 3 (.st 4 (.st 5 (.st 6 (.st 7 (.st 8 (.st 9 (.st 10 (.ld 11 [] .nil)))))))))))) rfl ?_
  first | refine GT_st rfl rfl rfl rfl (V_field rfl rfl fo_45_0) ?_ | refine GT_st rfl rfl rfl rfl (V_fieldA rfl rfl fo_45_0) ?_
  refine GT_st rfl rfl rfl rfl (V_load rfl rfl ag_2 (CellAt.item rfl)) ?_
  first | refine GT_st rfl rfl rfl rfl (V_field rfl rfl fo_45_0) ?_ | refine GT_st rfl rfl rfl rfl (V_fieldA rfl rfl fo_45_0) ?_
  refine GT_st rfl rfl rfl rfl (V_load rfl rfl ag_2 (CellAt.item rfl)) ?_
  refine GT_st rfl rfl rfl rfl (V_add rfl rfl rfl (wrap_i64 (by omega))) ?_
  first | refine GT_st rfl rfl rfl rfl (V_field rfl rfl fo_45_1) ?_ | refine GT_st rfl rfl rfl rfl (V_fieldA rfl rfl fo_45_1) ?_
  refine GT_st rfl rfl rfl rfl (V_load rfl rfl ag_2 (CellAt.item rfl)) ?_
  first | refine GT_st rfl rfl rfl rfl (V_field rfl rfl fo_45_1) ?_ | refine GT_st rfl rfl rfl rfl (V_fieldA rfl rfl fo_45_1) ?_
  refine GT_st rfl rfl rfl rfl (V_load rfl rfl ag_2 (CellAt.item rfl)) ?_
  refine GT_st rfl rfl rfl rfl (V_add rfl rfl rfl (wrap_i64 (by omega))) ?_
  refine GT_st rfl rfl rfl rfl (V_build (vs := [_, _]) rfl rfl zc_45 pl_45 sa_45 rfl) ?_
  refine GT_store (vs := [_, _]) (l' := [_, _]) rfl rfl rfl rfl rfl rfl rfl sz_45 rfl rfl (Nat.le_of_ble_eq_true rfl) rfl (GR_nil) ?_
  refine GT_nil ?_
  refine GE_ret Tryd.func25 ⟨_, rfl, fun w m => run_loadVar_agg (vs := [_, _]) ag_45 sz_45 rfl (fun j v hj => CellsAt.item rfl j v hj w m)⟩ (fun w hw => ⟨?_, hw.nil⟩)
  rfl
theorem C_amounts {a : Sam} (ha : a.bd 100000000) : Con0 Tryd.prog 30 [.agg #[I a.l, I a.r]] w (.agg #[I a.amts.l, I a.amts.r]) := by
  unfold Sam.bd at ha
  refine Ret_of (vs := [_]) hm none' Tryd.func30 rfl Tryd.ntmps30 rfl ?_
  dsimp only [slotsOf]
  refine GE_seq ?_
  refine GE_plain (.ld 0 [] (.ld 1 [] .nil)) rfl ?_
  refine GT_box (z := [_, _]) rfl rfl rfl rfl rfl rfl rfl (fun _ => GR_nil) (fun b1 => ?_)
  refine GT_alloc rfl rfl rfl rfl rfl zc_45 (fun _ => GR_nil) (fun b2 => ?_)
  refine GT_nil ?_
  refine GE_seq ?_
  refine GE_plain (.st 0 (.st 1 (.st 2 (.st 3 (.st 4 (.st 5 (.st 6 (.st 7 (.st 8 (.st 9 (.st 10 (.st 11 (.st 12 (.ld 13 [] .nil)))))))))))))) rfl ?_
  first | refine GT_st rfl rfl rfl rfl (V_field rfl rfl fo_45_0) ?_ | refine GT_st rfl rfl rfl rfl (V_fieldA rfl rfl fo_45_0) ?_
  refine GT_st rfl rfl rfl rfl (V_load rfl rfl ag_2 (CellAt.item rfl)) ?_
  first | refine GT_st rfl rfl rfl rfl (V_field rfl rfl fo_45_0) ?_ | refine GT_st rfl rfl rfl rfl (V_fieldA rfl rfl fo_45_0) ?_
  refine GT_st rfl rfl rfl rfl (V_load rfl rfl ag_2 (CellAt.item rfl)) ?_
  refine GT_st rfl rfl rfl rfl (V_neg rfl rfl (wrap_i64 (by omega))) ?_
  refine GT_st rfl rfl rfl rfl (V_max rfl rfl rfl) ?_
  first | refine GT_st rfl rfl rfl rfl (V_field rfl rfl fo_45_1) ?_ | refine GT_st rfl rfl rfl rfl (V_fieldA rfl rfl fo_45_1) ?_
  refine GT_st rfl rfl rfl rfl (V_load rfl rfl ag_2 (CellAt.item rfl)) ?_
  first | refine GT_st rfl rfl rfl rfl (V_field rfl rfl fo_45_1) ?_ | refine GT_st rfl rfl rfl rfl (V_fieldA rfl rfl fo_45_1) ?_
  refine GT_st rfl rfl rfl rfl (V_load rfl rfl ag_2 (CellAt.item rfl)) ?_
  refine GT_st rfl rfl rfl rfl (V_neg rfl rfl (wrap_i64 (by omega))) ?_
  refine GT_st rfl rfl rfl rfl (V_max rfl rfl rfl) ?_
  refine GT_st rfl rfl rfl rfl (V_build (vs := [_, _]) rfl rfl zc_45 pl_45 sa_45 rfl) ?_
  refine GT_store (vs := [_, _]) (l' := [_, _]) rfl rfl rfl rfl rfl rfl rfl sz_45 rfl rfl (Nat.le_of_ble_eq_true rfl) rfl (GR_nil) ?_
  refine GT_nil ?_
  refine GE_ret Tryd.func30 ⟨_, rfl, fun w m => run_loadVar_agg (vs := [_, _]) ag_45 sz_45 rfl (fun j v hj => CellsAt.item rfl j v hj w m)⟩ (fun w hw => ⟨?_, hw.nil⟩)
  refine congrArg Value.agg ?_; simp [Sam.amts, amt]
theorem C_gain {i : Nat} (hi : i < p.length) (hg : ProgOk l p) {k lev : Int} (h0 : 0 ≤ k) (h1 : k < lng (pt p i)) (h2 : 0 ≤ lev) (h3 : lev ≤ 16000) :
    Con0 Tryd.prog 37 [.agg #[I (pt p i).tk, I (pt p i).fr, I (pt p i).to, I (pt p i).gap, I (pt p i).inn, I (pt p i).out, I (pt p i).lev, I i, I (bgn p i), I (en p i)], I k, I lev] w (.agg #[I (gnN (pt p i) k lev), I (gnD (pt p i))]) := by
  have ho := hg.each i hi
  have hu := up_bd ho h0
  have hd := dn_bd ho h1
  have hin := ho.inn
  have hout := ho.out
  have hD := gnD_pos ho
  have hb := bgn_mono hg i hi
  have he := en_fin hg hi
  have hf := hg.fin
  have hen : en p i = bgn p i + lng (pt p i) := rfl
  have m1 := mul_bd h2 h3 (b := up (pt p i) k) (B := 1001) (by omega) (by omega)
  have m2 := mul_bd m1.1 m1.2 (b := dn (pt p i) k) (B := 1001) (by omega) (by omega)
  refine Ret_of (vs := [_, _, _]) hm none' Tryd.func37 rfl Tryd.ntmps37 rfl ?_
  dsimp only [slotsOf]
  refine GE_seq ?_
  refine GE_plain (.ld 0 [] (.ld 1 [] .nil)) rfl ?_
  refine GT_box (z := [_, _, _, _, _, _, _, _, _, _]) rfl rfl rfl rfl rfl rfl rfl (fun _ => GR_nil) (fun b3 => ?_)
  refine GT_alloc rfl rfl rfl rfl rfl zc_86 (fun _ => GR_nil) (fun b6 => ?_)
  refine GT_nil ?_
  refine GE_seq ?_
  refine GE_drawn (.st 0 (.st 1 (.st 2 (.st 3 (.st 4 (.st 5 (.st 6 (.st 7 (.st 8 (.st 9 (.st 10 (.st 11 (.st 12 (.st 13 (.st 14 (.st 15 (.st 16 (.st 17 (.st 18 (.st 19 (.st 20 .nil))))))))))))))))))))) [] (by decide +kernel) ?_
  refine GT_st rfl rfl rfl rfl (V_move rfl rfl) ?_
  first | refine GT_st rfl rfl rfl rfl (V_field rfl rfl fo_73_0) ?_ | refine GT_st rfl rfl rfl rfl (V_fieldA rfl rfl fo_73_0) ?_
  first | refine GT_st rfl rfl rfl rfl (V_field rfl rfl fo_65_4) ?_ | refine GT_st rfl rfl rfl rfl (V_fieldA rfl rfl fo_65_4) ?_
  refine GT_st rfl rfl rfl rfl (V_load rfl rfl ag_3 (CellAt.item rfl)) ?_
  refine GT_st rfl rfl rfl rfl (V_min rfl rfl rfl) ?_
  refine GT_st rfl rfl rfl rfl (V_add rfl rfl rfl ((wrap_i64 (by omega)).trans (show _ = up (pt p i) k from rfl))) ?_
  first | refine GT_st rfl rfl rfl rfl (V_field rfl rfl fo_73_3) ?_ | refine GT_st rfl rfl rfl rfl (V_fieldA rfl rfl fo_73_3) ?_
  refine GT_st rfl rfl rfl rfl (V_load rfl rfl ag_3 (CellAt.item rfl)) ?_
  first | refine GT_st rfl rfl rfl rfl (V_field rfl rfl fo_73_2) ?_ | refine GT_st rfl rfl rfl rfl (V_fieldA rfl rfl fo_73_2) ?_
  refine GT_st rfl rfl rfl rfl (V_load rfl rfl ag_3 (CellAt.item rfl)) ?_
  refine GT_st rfl rfl rfl rfl (V_sub rfl rfl rfl (wrap_i64 (by omega))) ?_
  refine GT_st rfl rfl rfl rfl (V_move rfl rfl) ?_
  refine GT_st rfl rfl rfl rfl (V_sub rfl rfl rfl (wrap_i64 (by omega))) ?_
  refine GT_st rfl rfl rfl rfl (V_sub rfl rfl rfl (wrap_i64 (by omega))) ?_
  first | refine GT_st rfl rfl rfl rfl (V_field rfl rfl fo_73_0) ?_ | refine GT_st rfl rfl rfl rfl (V_fieldA rfl rfl fo_73_0) ?_
  first | refine GT_st rfl rfl rfl rfl (V_field rfl rfl fo_65_5) ?_ | refine GT_st rfl rfl rfl rfl (V_fieldA rfl rfl fo_65_5) ?_
  refine GT_st rfl rfl rfl rfl (V_load rfl rfl ag_3 (CellAt.item rfl)) ?_
  refine GT_st rfl rfl rfl rfl (V_min rfl rfl rfl) ?_
  refine GT_st rfl rfl rfl rfl (V_add rfl rfl rfl ((wrap_i64 (by omega)).trans (show _ = dn (pt p i) k by unfold dn; rw [hen]; omega))) ?_
  refine GT_st rfl rfl rfl rfl (V_assign rfl rfl) ?_
  refine GT_st rfl rfl rfl rfl (V_assign rfl rfl) ?_
  refine GT_nil ?_
  refine GE_seq ?_
  refine GE_slots (L' := [(2, _), (3, _), (6, _), (7, _), (8, _)]) ⟨rfl, rfl, rfl, rfl, rfl, trivial⟩ ?_
  refine GE_plain (.st 0 (.st 1 (.st 2 (.st 3 (.st 4 (.st 5 (.st 6 (.st 7 (.st 8 (.st 9 (.st 10 (.st 11 (.st 12 (.st 13 (.st 14 (.st 15 (.ld 16 [] .nil))))))))))))))))) rfl ?_
  refine GT_st rfl rfl rfl rfl (V_move rfl rfl) ?_
  refine GT_st rfl rfl rfl rfl (V_move rfl rfl) ?_
  refine GT_st rfl rfl rfl rfl (V_mul rfl rfl rfl (wrap_i64 (by omega))) ?_
  refine GT_st rfl rfl rfl rfl (V_move rfl rfl) ?_
  refine GT_st rfl rfl rfl rfl (V_mul rfl rfl rfl ((wrap_i64 (by omega)).trans (show _ = gnN (pt p i) k lev from rfl))) ?_
  first | refine GT_st rfl rfl rfl rfl (V_field rfl rfl fo_73_0) ?_ | refine GT_st rfl rfl rfl rfl (V_fieldA rfl rfl fo_73_0) ?_
  first | refine GT_st rfl rfl rfl rfl (V_field rfl rfl fo_65_4) ?_ | refine GT_st rfl rfl rfl rfl (V_fieldA rfl rfl fo_65_4) ?_
  refine GT_st rfl rfl rfl rfl (V_load rfl rfl ag_3 (CellAt.item rfl)) ?_
  refine GT_st rfl rfl rfl rfl (V_add rfl rfl rfl (wrap_i64 (by omega))) ?_
  refine GT_st rfl rfl rfl rfl (V_mul rfl rfl rfl (wrap_i64 (by omega))) ?_
  first | refine GT_st rfl rfl rfl rfl (V_field rfl rfl fo_73_0) ?_ | refine GT_st rfl rfl rfl rfl (V_fieldA rfl rfl fo_73_0) ?_
  first | refine GT_st rfl rfl rfl rfl (V_field rfl rfl fo_65_5) ?_ | refine GT_st rfl rfl rfl rfl (V_fieldA rfl rfl fo_65_5) ?_
  refine GT_st rfl rfl rfl rfl (V_load rfl rfl ag_3 (CellAt.item rfl)) ?_
  refine GT_st rfl rfl rfl rfl (V_add rfl rfl rfl (wrap_i64 (by omega))) ?_
  refine GT_st rfl rfl rfl rfl (V_mul rfl rfl rfl ((wrap_i64 (by unfold gnD at hD; omega)).trans (show _ = gnD (pt p i) from rfl))) ?_
  refine GT_st rfl rfl rfl rfl (V_build (vs := [_, _]) rfl rfl zc_86 pl_86 sa_86 rfl) ?_
  refine GT_store (vs := [_, _]) (l' := [_, _]) rfl rfl rfl rfl rfl rfl rfl sz_86 rfl rfl (Nat.le_of_ble_eq_true rfl) rfl (GR_nil) ?_
  refine GT_nil ?_
  refine GE_ret Tryd.func37 ⟨_, rfl, fun w m => run_loadVar_agg (vs := [_, _]) ag_86 sz_86 rfl (fun j v hj => CellsAt.item rfl j v hj w m)⟩ (fun w hw => ⟨?_, hw.nil⟩)
  rfl
theorem C_of {n d s : Int} (hd : 1 ≤ d) (h : amt (s * n) ≤ 9000000000000000000) : Con0 Tryd.prog 38 [.agg #[I n, I d], I s] w (I ((s * n).tdiv d)) := by
  have hq : amt ((s * n).tdiv d) ≤ amt (s * n) := by
    have := tdiv_bd (a := s * n) (d := d) (c := 1000 * amt (s * n)) (by omega) (by have := amt_nonneg (s * n); omega) (by
      have h0 := amt_nonneg (s * n)
      have := Int.mul_le_mul_of_nonneg_left hd (show 0 ≤ 1000 * amt (s * n) by omega)
      rw [Int.mul_one] at this
      exact this)
    omega
  unfold amt at h hq
  refine Ret_of (vs := [_, _]) hm none' Tryd.func38 rfl Tryd.ntmps38 rfl ?_
  dsimp only [slotsOf]
  refine GE_seq ?_
  refine GE_plain (.ld 0 [] (.st 1 .nil)) rfl ?_
  refine GT_box (z := [_, _]) rfl rfl rfl rfl rfl rfl rfl (fun _ => GR_nil) (fun b2 => ?_)
  refine GT_st rfl rfl rfl rfl (V_assign rfl rfl) ?_
  refine GT_nil ?_
  refine GE_seq ?_
  refine GE_plain (.st 0 (.st 1 (.st 2 (.st 3 (.st 4 (.st 5 (.st 6 (.st 7 .nil)))))))) rfl ?_
  refine GT_st rfl rfl rfl rfl (V_move rfl rfl) ?_
  first | refine GT_st rfl rfl rfl rfl (V_field rfl rfl fo_86_0) ?_ | refine GT_st rfl rfl rfl rfl (V_fieldA rfl rfl fo_86_0) ?_
  refine GT_st rfl rfl rfl rfl (V_load rfl rfl ag_2 (CellAt.item rfl)) ?_
  refine GT_st rfl rfl rfl rfl (V_mul rfl rfl rfl (wrap_i64 (by omega))) ?_
  first | refine GT_st rfl rfl rfl rfl (V_field rfl rfl fo_86_1) ?_ | refine GT_st rfl rfl rfl rfl (V_fieldA rfl rfl fo_86_1) ?_
  refine GT_st rfl rfl rfl rfl (V_load rfl rfl ag_2 (CellAt.item rfl)) ?_
  refine GT_st rfl rfl rfl rfl (V_quo rfl rfl rfl (by omega) (wrap_i64 (by omega))) ?_
  refine GT_st rfl rfl rfl rfl (V_assign rfl rfl) ?_
  refine GT_nil ?_
  refine GE_ret Tryd.func38 rfl (fun w hw => ⟨?_, hw.nil⟩)
  rfl
theorem C_sound {i g : Nat} {X Y : Value} (hi : i < p.length) (hg : ProgOk l p) {k lev : Int} (h0 : 0 ≤ k) (h1 : k < lng (pt p i)) (h2 : 0 ≤ lev) (h3 : lev ≤ 16000) (h : Tks w A l) (hb : BlkAt w g [.slice A l.length c, X, Y] 71) :
    Con0 Tryd.prog 26 [ptr g 0, .agg #[I (pt p i).tk, I (pt p i).fr, I (pt p i).to, I (pt p i).gap, I (pt p i).inn, I (pt p i).out, I (pt p i).lev, I i, I (bgn p i), I (en p i)], I k, I lev] w (.agg #[I (snd l (pt p i) k lev).l, I (snd l (pt p i) k lev).r]) := by
  have ho := hg.each i hi
  have hsm := smp_ok hg.tks ho h0 h1
  obtain ⟨q1, q2, q3, q4⟩ := hsm
  have hD := gnD_pos ho
  have hN := gnN_bd ho h0 h1 h2
  have hdat := (h.2 _ (getD_mem q2)).1
  have hfr := ho.fr0
  have hfr1 := ho.frto
  have hto := ho.to1
  have htk := ho.tk0
  have hlen : (tkOf l (pt p i)).data.length ≤ 4096 := (tErr_zero.1 (hg.tks.each _ (getD_mem q2))).1
  have hk : k < (pt p i).to - (pt p i).fr := h1
  have hgn : gnN (pt p i) k lev ≤ 16032016000 := by
    have m := mul_bd h2 h3 (b := gnD (pt p i)) (B := 1002001000) (by omega) hD.2
    omega
  have hb1 : amt ((smp l (pt p i) k).l * gnN (pt p i) k lev) ≤ 9000000000000000000 := by
    rw [amt_mul hN.1]; have := mul_bd (amt_nonneg (smp l (pt p i) k).l) (A := 32767) (by unfold amt; omega) hN.1 hgn; omega
  have hb2 : amt ((smp l (pt p i) k).r * gnN (pt p i) k lev) ≤ 9000000000000000000 := by
    rw [amt_mul hN.1]; have := mul_bd (amt_nonneg (smp l (pt p i) k).r) (A := 32767) (by unfold amt; omega) hN.1 hgn; omega
  refine Ret_of (vs := [_, _, _, _]) hm none' Tryd.func26 rfl Tryd.ntmps26 rfl ?_
  dsimp only [slotsOf]
  refine GE_seq ?_
  refine GE_plain (.ld 0 [] (.ld 1 [] .nil)) rfl ?_
  refine GT_box (z := [_, _, _, _, _, _, _, _, _, _]) rfl rfl rfl rfl rfl rfl rfl (fun _ => GR_nil) (fun b5 => ?_)
  refine GT_alloc rfl rfl rfl rfl rfl zc_45 (fun _ => GR_nil) (fun b8 => ?_)
  refine GT_nil ?_
  refine GE_seq ?_
  refine GE_plain (.st 0 (.st 1 (.st 2 (.ld 3 [] (.st 4 (.st 5 .nil)))))) rfl ?_
  refine GT_st rfl rfl rfl rfl (V_loadN (vs := [_, _, _, _, _, _, _, _, _, _]) rfl rfl ag_73 sz_73 rfl (CellsAt.item rfl)) ?_
  refine GT_st rfl rfl rfl rfl (V_move rfl rfl) ?_
  refine GT_st rfl rfl rfl rfl (V_move rfl rfl) ?_
  refine GT_call0 rfl rfl rfl rfl rfl rfl rfl rfl rn_37 (fun w hw => C_gain hi hg h0 h1 h2 h3) (GR_nil) ?_
  refine GT_st rfl rfl rfl rfl (V_makeFunc rfl rfl rfl) ?_
  refine GT_st rfl rfl rfl rfl (V_assign rfl rfl) ?_
  refine GT_nil ?_
  refine GE_seq ?_
  refine GE_slots (L' := [(0, _), (2, _), (5, _), (8, _), (9, _)]) ⟨rfl, rfl, rfl, rfl, rfl, trivial⟩ ?_
  refine GE_drawn (.st 0 (.st 1 (.st 2 (.st 3 (.st 4 (.st 5 (.st 6 (.st 7 (.st 8 (.st 9 (.st 10 (.st 11 (.st 12 (.st 13 (.st 14 (.st 15 (.st 16 (.ld 17 [0, 1, 2, 3, 4, 5, 6, 7, 8, 9, 10, 11, 12, 13, 14, 15, 16] (.ld 18 [] .nil))))))))))))))))))) [17, 18] (by decide +kernel) ?_
  refine GT_st rfl rfl rfl rfl (V_move rfl rfl) ?_
  first | refine GT_st rfl rfl rfl rfl (V_nilCheck rfl rfl) ?_ | refine GT_st rfl rfl rfl rfl (V_nilCheck_func rfl rfl) ?_ | refine GT_st rfl rfl rfl rfl (V_nilCheck_yield rfl rfl) ?_
  first | refine GT_st rfl rfl rfl rfl (V_field rfl rfl fo_71_0) ?_ | refine GT_st rfl rfl rfl rfl (V_fieldA rfl rfl fo_71_0) ?_
  refine GT_st rfl rfl rfl rfl (V_load rfl rfl ag_27 (.old (hb.cell rfl) (noM _))) ?_
  first | refine GT_st rfl rfl rfl rfl (V_field rfl rfl fo_73_0) ?_ | refine GT_st rfl rfl rfl rfl (V_fieldA rfl rfl fo_73_0) ?_
  first | refine GT_st rfl rfl rfl rfl (V_field rfl rfl fo_65_0) ?_ | refine GT_st rfl rfl rfl rfl (V_fieldA rfl rfl fo_65_0) ?_
  refine GT_st rfl rfl rfl rfl (V_load rfl rfl ag_3 (CellAt.item rfl)) ?_
  refine GT_st rfl rfl rfl rfl (V_index rfl rfl rfl Tryd.underlying27 sz_24 (k := (pt p i).tk.toNat) (by omega) q2 (h.1.isSome q2)) ?_
  first | refine GT_st rfl rfl rfl rfl (V_field rfl rfl fo_24_1) ?_ | refine GT_st rfl rfl rfl rfl (V_fieldA rfl rfl fo_24_1) ?_
  refine GT_st rfl rfl rfl rfl (V_load rfl rfl ag_22 (h.1.at1 noM q2 rfl)) ?_
  first | refine GT_st rfl rfl rfl rfl (V_field rfl rfl fo_73_0) ?_ | refine GT_st rfl rfl rfl rfl (V_fieldA rfl rfl fo_73_0) ?_
  first | refine GT_st rfl rfl rfl rfl (V_field rfl rfl fo_65_1) ?_ | refine GT_st rfl rfl rfl rfl (V_fieldA rfl rfl fo_65_1) ?_
  refine GT_st rfl rfl rfl rfl (V_load rfl rfl ag_3 (CellAt.item rfl)) ?_
  refine GT_st rfl rfl rfl rfl (V_move rfl rfl) ?_
  refine GT_st rfl rfl rfl rfl (V_add rfl rfl rfl (wrap_i64 (by omega))) ?_
  refine GT_st rfl rfl rfl rfl (V_index rfl rfl rfl Tryd.underlying22 sz_45 (k := ((pt p i).fr + k).toNat) (by omega) q1 (hdat.isSome q1)) ?_
  refine GT_st rfl rfl rfl rfl (V_loadN (vs := [_, _]) rfl rfl ag_45 sz_45 rfl (show CellsAt _ _ _ (eSam (smp l (pt p i) k)) from hdat.ats noM q1)) ?_
  refine GT_alloc rfl rfl rfl rfl rfl zc_45 (fun _ => GR_cons rfl rfl rfl rfl (V_move rfl rfl) (GR_cons rfl rfl rfl rfl ((by first | exact V_nilCheck rfl rfl | exact V_nilCheck_func rfl rfl | exact V_nilCheck_yield rfl rfl)) (GR_cons rfl rfl rfl rfl ((by first | exact V_field rfl rfl fo_71_0 | exact V_fieldA rfl rfl fo_71_0)) (GR_cons rfl rfl rfl rfl (V_load rfl rfl ag_27 (.old (hb.cell rfl) (noM _))) (GR_cons rfl rfl rfl rfl ((by first | exact V_field rfl rfl fo_73_0 | exact V_fieldA rfl rfl fo_73_0)) (GR_cons rfl rfl rfl rfl ((by first | exact V_field rfl rfl fo_65_0 | exact V_fieldA rfl rfl fo_65_0)) (GR_cons rfl rfl rfl rfl (V_load rfl rfl ag_3 (CellAt.item rfl)) (GR_cons rfl rfl rfl rfl (V_index rfl rfl rfl Tryd.underlying27 sz_24 (k := (pt p i).tk.toNat) (by omega) q2 (h.1.isSome q2)) (GR_cons rfl rfl rfl rfl ((by first | exact V_field rfl rfl fo_24_1 | exact V_fieldA rfl rfl fo_24_1)) (GR_cons rfl rfl rfl rfl (V_load rfl rfl ag_22 (h.1.at1 noM q2 rfl)) (GR_cons rfl rfl rfl rfl ((by first | exact V_field rfl rfl fo_73_0 | exact V_fieldA rfl rfl fo_73_0)) (GR_cons rfl rfl rfl rfl ((by first | exact V_field rfl rfl fo_65_1 | exact V_fieldA rfl rfl fo_65_1)) (GR_cons rfl rfl rfl rfl (V_load rfl rfl ag_3 (CellAt.item rfl)) (GR_cons rfl rfl rfl rfl (V_move rfl rfl) (GR_cons rfl rfl rfl rfl (V_add rfl rfl rfl (wrap_i64 (by omega))) (GR_cons rfl rfl rfl rfl (V_index rfl rfl rfl Tryd.underlying22 sz_45 (k := ((pt p i).fr + k).toNat) (by omega) q1 (hdat.isSome q1)) (GR_cons rfl rfl rfl rfl (V_loadN (vs := [_, _]) rfl rfl ag_45 sz_45 rfl (show CellsAt _ _ _ (eSam (smp l (pt p i) k)) from hdat.ats noM q1)) (GR_nil)))))))))))))))))) (fun b10 => ?_)
  refine GT_store (vs := [_, _]) (l' := [_, _]) rfl rfl rfl rfl rfl rfl rfl sz_45 rfl rfl (Nat.le_of_ble_eq_true rfl) rfl (GR_nil) ?_
  refine GT_nil ?_
  refine GE_seq ?_
  refine GE_slots (L' := [(8, _), (9, _), (10, _)]) ⟨rfl, rfl, rfl, trivial⟩ ?_
  refine GE_drawn (.st 0 (.st 1 (.st 2 (.st 4 (.st 5 (.st 6 (.ld 3 [4, 5, 6] (.ld 7 [] (.st 8 (.ld 9 [] .nil)))))))))) [3, 7, 9] (by decide +kernel) ?_
  refine GT_st rfl rfl rfl rfl (V_move rfl rfl) ?_
  first | refine GT_st rfl rfl rfl rfl (V_field rfl rfl fo_45_0) ?_ | refine GT_st rfl rfl rfl rfl (V_fieldA rfl rfl fo_45_0) ?_
  refine GT_st rfl rfl rfl rfl (V_load rfl rfl ag_2 (CellAt.item rfl)) ?_
  refine GT_st rfl rfl rfl rfl (V_move rfl rfl) ?_
  first | refine GT_st rfl rfl rfl rfl (V_field rfl rfl fo_45_1) ?_ | refine GT_st rfl rfl rfl rfl (V_fieldA rfl rfl fo_45_1) ?_
  refine GT_st rfl rfl rfl rfl (V_load rfl rfl ag_2 (CellAt.item rfl)) ?_
  refine GT_call0 rfl rfl rfl rfl rfl rfl rfl rfl rn_38 (fun w hw => C_of (by omega) hb1) (GR_cons rfl rfl rfl rfl (V_move rfl rfl) (GR_cons rfl rfl rfl rfl ((by first | exact V_field rfl rfl fo_45_1 | exact V_fieldA rfl rfl fo_45_1)) (GR_cons rfl rfl rfl rfl (V_load rfl rfl ag_2 (CellAt.item rfl)) (GR_nil)))) ?_
  refine GT_call0 rfl rfl rfl rfl rfl rfl rfl rfl rn_38 (fun w hw => C_of (by omega) hb2) (GR_nil) ?_
  refine GT_st rfl rfl rfl rfl (V_build (vs := [_, _]) rfl rfl zc_45 pl_45 sa_45 rfl) ?_
  refine GT_store (vs := [_, _]) (l' := [_, _]) rfl rfl rfl rfl rfl rfl rfl sz_45 rfl rfl (Nat.le_of_ble_eq_true rfl) rfl (GR_nil) ?_
  refine GT_nil ?_
  refine GE_ret Tryd.func26 ⟨_, rfl, fun w m => run_loadVar_agg (vs := [_, _]) ag_45 sz_45 rfl (fun j v hj => CellsAt.item rfl j v hj w m)⟩ (fun w hw => ⟨?_, hw.nil⟩)
  rfl
end
end Go.Proofs.YtdcjgjopmicidaaDoor
