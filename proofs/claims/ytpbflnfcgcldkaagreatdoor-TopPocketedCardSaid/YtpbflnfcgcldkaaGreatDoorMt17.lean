/- Texts of this proof, one behind the other: Ud2, Ud3, Tg6, Ta2, Ta3, Ta4, Th1, Ud4, Uc2, Uc3, Uc4. -/
import Derived.Test.YtpbflnfcgcldkaaGreatDoorMt16
import Derived.Test.YtpbflnfcgcldkaaGreatDoorMt15
import Derived.Test.YtpbflnfcgcldkaaGreatDoorMt14
import Derived.Test.YtpbflnfcgcldkaaGreatDoorMt11
import Derived.Test.YtpbflnfcgcldkaaGreatDoorMt13
/- Few numbers in order, by slices.SortFunc, plain and walked. -/
namespace Go.Proofs.YtpbflnfcgcldkaaGreatDoor.Side
open Go.Sx Go.Proofs Go.RowKit
def sw2 (d : List Int) (j : Nat) : List Int := (d.set (j + 1) (d.getD j default)).set j (d.getD (j + 1) default)
def inn (cmp : Int → Int → Int) : List Int → Nat → List Int
  | d, 0 => d
  | d, j + 1 => if cmp (d.getD (j + 1) default) (d.getD j default) < 0 then inn cmp (sw2 d j) j else d
def srq (cmp : Int → Int → Int) (l : List Int) : Nat → List Int
  | 0 => l
  | k + 1 => inn cmp (srq cmp l k) (k + 1)
theorem sw2_len {d : List Int} {j : Nat} : (sw2 d j).length = d.length := by simp [sw2]
theorem sw2_mem {d l : List Int} {j : Nat} (hj : j + 1 < d.length) (h : ∀ x ∈ d, x ∈ l) : ∀ x ∈ sw2 d j, x ∈ l := by
  intro x hx
  rcases List.mem_or_eq_of_mem_set hx with q | rfl
  · rcases List.mem_or_eq_of_mem_set q with q | rfl
    · exact h x q
    · exact h _ (getD_memT (by omega))
  · exact h _ (getD_memT hj)
theorem inn_ok (cmp : Int → Int → Int) {l : List Int} : ∀ (j : Nat) (d : List Int), j < d.length → (∀ x ∈ d, x ∈ l) → (inn cmp d j).length = d.length ∧ ∀ x ∈ inn cmp d j, x ∈ l
  | 0, d, _, h => ⟨rfl, h⟩
  | j + 1, d, hj, h => by
    rw [inn]
    split
    · have := inn_ok cmp j (sw2 d j) (by rw [sw2_len]; omega) (sw2_mem hj h)
      rwa [sw2_len] at this
    · exact ⟨rfl, h⟩
theorem srq_ok (cmp : Int → Int → Int) {l : List Int} : ∀ k, k < l.length → (srq cmp l k).length = l.length ∧ ∀ x ∈ srq cmp l k, x ∈ l
  | 0, _ => ⟨rfl, fun _ h => h⟩
  | k + 1, hk => by
    obtain ⟨h1, h2⟩ := srq_ok cmp (l := l) k (by omega)
    have := inn_ok cmp (l := l) (k + 1) (srq cmp l k) (by omega) h2
    rw [h1] at this
    exact this
section
variable {w w0 : World} {A : Option Addr} {c g fi : Nat} {l : List Int} {cmp : Int → Int → Int} {G I0 : Items}
set_option maxRecDepth 20000 in
theorem C_insC (hrun : runs Tryz.prog fi = true) (hcmp : ∀ w H, SH w0 none' H w → ∀ x ∈ l, ∀ y ∈ l, Con0 Tryz.prog fi [ptr g 0, I x, I y] w (I (cmp x y))) (hl : 1 ≤ l.length ∧ l.length ≤ 1000)
    (hO : Own 1 3 eN l (.slice A l.length c) I0) (m : SH w0 none' (I0 ++ G) w) :
    Ret Tryz.prog 356 [.slice A l.length c, I 0, I l.length, .func (.func fi) #[ptr g 0] #[]].toArray w fun v w' => ∃ I', Own 1 3 eN (srq cmp l (l.length - 1)) (.slice A l.length c) I' ∧ v = .tuple #[] ∧ SH w0 none' (I' ++ G) w' := by
  refine Ret_ofH (vs := [_, _, _, _]) hm none' Tryz.func356 rfl Tryz.ntmps356 rfl m ?_
  dsimp only [slotsOf]
  refine GE_seq ?_
  refine GE_plain (.st 0 (.st 1 (.st 2 .nil))) rfl ?_
  refine GT_st rfl rfl rfl rfl (V_move rfl rfl) ?_
  refine GT_st rfl rfl rfl rfl (V_add rfl rfl rfl (wrap_i64 (by omega))) ?_
  refine GT_st rfl rfl rfl rfl (V_assign rfl rfl) ?_
  refine GT_nil ?_
  refine GE_block ?_
  refine GE_to (GE_loop (ι := Nat × Items) (fun z => l.length - z.1) (fun z => [(0, .slice A l.length c), (1, I 0), (2, I l.length), (3, .func (.func fi) #[ptr g 0] #[]), (8, I z.1)]) (fun z => z.2 ++ G) (fun z => (1 ≤ z.1 ∧ z.1 ≤ l.length) ∧ Own 1 3 eN (srq cmp l (z.1 - 1)) (.slice A l.length c) z.2) ?_ (1, I0) ?_) ⟨rfl, rfl, rfl, rfl, rfl, trivial⟩ (HS.chunk HS.last)
  · rintro ⟨i, I1⟩ ⟨⟨hi1, hi2⟩, hO1⟩ ih; dsimp only at hi1 hi2 hO1 ih ⊢
    refine GE_seq ?_
    refine GE_seq ?_
    refine GE_plain (.st 0 (.st 1 (.st 2 .nil))) rfl ?_
    refine GT_st rfl rfl rfl rfl (V_move rfl rfl) ?_
    refine GT_st rfl rfl rfl rfl (V_move rfl rfl) ?_
    refine GT_st rfl rfl rfl rfl (V_lss rfl rfl rfl) ?_
    refine GT_nil ?_
    first | refine GE_condNot rfl (fun q1 => ?_) (fun q1 => ?_) | refine GE_cond rfl (fun q1 => ?_) (fun q1 => ?_) | refine GE_condNotB rfl (fun q1 => ?_) (fun q1 => ?_) | refine GE_condB rfl (fun q1 => ?_) (fun q1 => ?_)
    · have hil : i < l.length := (by omega); obtain ⟨hs1, hs2⟩ := srq_ok cmp (l := l) (i - 1) (by omega); have hsi : srq cmp l i = inn cmp (srq cmp l (i - 1)) i := (by rw [show i = (i - 1) + 1 by omega]; rfl)
      refine GE_skip ?_
      refine GE_seq ?_
      refine GE_block ?_
      refine GE_seq ?_
      refine GE_plain (.st 0 (.st 1 .nil)) rfl ?_
      refine GT_st rfl rfl rfl rfl (V_move rfl rfl) ?_
      refine GT_st rfl rfl rfl rfl (V_assign rfl rfl) ?_
      refine GT_nil ?_
      refine GE_block ?_
      refine GE_to (GE_loop (ι := Nat × List Int × Items) (fun z => z.1) (fun z => [(0, .slice A l.length c), (1, I 0), (2, I l.length), (3, .func (.func fi) #[ptr g 0] #[]), (8, I i), (9, I z.1)]) (fun z => z.2.2 ++ G) (fun z => z.1 < l.length ∧ z.2.1.length = l.length ∧ (∀ x ∈ z.2.1, x ∈ l) ∧ srq cmp l i = inn cmp z.2.1 z.1 ∧ Own 1 3 eN z.2.1 (.slice A l.length c) z.2.2) ?_ (i, srq cmp l (i - 1), I1) ?_) ⟨rfl, rfl, rfl, rfl, rfl, rfl, trivial⟩ (HS.chunk HS.last)
      · rintro ⟨j, d, I2⟩ ⟨hjl, hdl, hdm, hst, hO2⟩ ih2; dsimp only at hjl hdl hdm hst hO2 ih2 ⊢
        refine GE_seq ?_
        refine GE_seq ?_
        refine GE_drawn (.st 0 (.st 1 (.st 2 (.st 3 (.st 4 (.st 5 (.st 6 (.st 7 (.st 8 (.st 9 (.st 10 (.st 11 (.st 12 (.st 13 (.ld 14 [] (.st 15 (.st 16 .nil))))))))))))))))) [14] (by decide +kernel) ?_
        refine GT_st rfl rfl rfl rfl (V_move rfl rfl) ?_
        refine GT_st rfl rfl rfl rfl (V_move rfl rfl) ?_
        refine GT_st rfl rfl rfl rfl (V_gtr rfl rfl rfl) ?_
        refine GT_st rfl rfl rfl rfl (V_move rfl rfl) ?_
        first | refine GT_splitNot (d := 21) rfl (fun q2 => ?_) (fun q2 => ?_) | refine GT_split (d := 21) rfl (fun q2 => ?_) (fun q2 => ?_) | refine GT_splitNotB (d := 21) rfl (fun q2 => ?_) (fun q2 => ?_) | refine GT_splitB (d := 21) rfl (fun q2 => ?_) (fun q2 => ?_)
        · have hj1 : j - 1 + 1 = j := (by omega); have hst1 : inn cmp d j = (if cmp (d.getD j default) (d.getD (j - 1) default) < 0 then inn cmp (sw2 d (j - 1)) (j - 1) else d) := (by rw [show inn cmp d j = inn cmp d (j - 1 + 1) by rw [hj1], inn, hj1])
          refine GT_st_g rfl rfl rfl rfl rfl rfl rfl (V_move rfl rfl) ?_
          refine GT_st_g rfl rfl rfl rfl rfl rfl rfl (V_move rfl rfl) ?_
          refine GT_st_g rfl rfl rfl rfl rfl rfl rfl (V_move rfl rfl) ?_
          refine GT_st_g rfl rfl rfl rfl rfl rfl rfl (V_index rfl rfl rfl Tryz.underlying38 sz_3 (k := j) rfl hjl (hO2.isSome (k := j) (by omega))) ?_
          refine GT_st_g rfl rfl rfl rfl rfl rfl rfl (V_load rfl rfl ag_3 (CellAt.own0 (k := j) hO2 eN_len (by omega) rfl)) ?_
          refine GT_st_g rfl rfl rfl rfl rfl rfl rfl (V_move rfl rfl) ?_
          refine GT_st_g rfl rfl rfl rfl rfl rfl rfl (V_move rfl rfl) ?_
          refine GT_st_g rfl rfl rfl rfl rfl rfl rfl (V_sub rfl rfl rfl (wrap_i64 (by omega))) ?_
          refine GT_st_g rfl rfl rfl rfl rfl rfl rfl (V_index rfl rfl rfl Tryz.underlying38 sz_3 (k := j - 1) (by omega) (by omega) (hO2.isSome (k := j - 1) (by omega))) ?_
          refine GT_st_g rfl rfl rfl rfl rfl rfl rfl (V_load rfl rfl ag_3 (CellAt.own0 (k := j - 1) hO2 eN_len (by omega) rfl)) ?_
          refine GT_call0_g (fi := fi) rfl rfl rfl rfl rfl rfl rfl rfl rfl rfl rfl hrun (fun w hw => hcmp _ _ hw _ (hdm _ (getD_memT (by omega))) _ (hdm _ (getD_memT (by omega)))) (GR_nil) ?_
          refine GT_st_g rfl rfl rfl rfl rfl rfl rfl (V_lss rfl rfl rfl) ?_
          refine GT_st rfl rfl rfl rfl (V_pick_t rfl rfl rfl) ?_
          refine GT_nil ?_
          first | refine GE_condNot rfl (fun q3 => ?_) (fun q3 => ?_) | refine GE_cond rfl (fun q3 => ?_) (fun q3 => ?_) | refine GE_condNotB rfl (fun q3 => ?_) (fun q3 => ?_) | refine GE_condB rfl (fun q3 => ?_) (fun q3 => ?_)
          · have hst2 : srq cmp l i = inn cmp (sw2 d (j - 1)) (j - 1) := (by rw [hst, hst1, if_pos q3])
            refine GE_skip ?_
            refine GE_seq ?_
            refine GE_block ?_
            refine GE_slots (L' := [(0, _), (1, _), (2, _), (3, _), (8, _), (9, _), (22, _), (23, _), (24, _), (25, _), (26, _), (27, _), (28, _), (29, _), (30, _), (31, _), (32, _), (33, _)]) ⟨rfl, rfl, rfl, rfl, rfl, rfl, rfl, rfl, rfl, rfl, rfl, rfl, rfl, rfl, rfl, rfl, rfl, rfl, trivial⟩ ?_
            refine GE_drawn (.st 0 (.st 1 (.st 2 (.st 3 (.st 4 (.st 5 (.st 6 (.st 7 (.st 8 (.st 9 (.st 10 (.st 11 (.st 12 (.st 13 (.st 14 (.ld 15 [2, 3, 4] (.st 16 (.ld 17 [] .nil)))))))))))))))))) [15, 17] (by decide +kernel) ?_
            refine GT_st rfl rfl rfl rfl (V_move rfl rfl) ?_
            refine GT_st rfl rfl rfl rfl (V_move rfl rfl) ?_
            refine GT_st rfl rfl rfl rfl (V_move rfl rfl) ?_
            refine GT_st rfl rfl rfl rfl (V_move rfl rfl) ?_
            refine GT_st rfl rfl rfl rfl (V_sub rfl rfl rfl (wrap_i64 (by omega))) ?_
            refine GT_st rfl rfl rfl rfl (V_move rfl rfl) ?_
            refine GT_st rfl rfl rfl rfl (V_move rfl rfl) ?_
            refine GT_st rfl rfl rfl rfl (V_sub rfl rfl rfl (wrap_i64 (by omega))) ?_
            refine GT_st rfl rfl rfl rfl (V_index rfl rfl rfl Tryz.underlying38 sz_3 (k := j - 1) (by omega) (by omega) (hO2.isSome (k := j - 1) (by omega))) ?_
            refine GT_st rfl rfl rfl rfl (V_load rfl rfl ag_3 (CellAt.own0 (k := j - 1) hO2 eN_len (by omega) rfl)) ?_
            refine GT_st rfl rfl rfl rfl (V_move rfl rfl) ?_
            refine GT_st rfl rfl rfl rfl (V_move rfl rfl) ?_
            refine GT_st rfl rfl rfl rfl (V_index rfl rfl rfl Tryz.underlying38 sz_3 (k := j) rfl hjl (hO2.isSome (k := j) (by omega))) ?_
            refine GT_st rfl rfl rfl rfl (V_load rfl rfl ag_3 (CellAt.own0 (k := j) hO2 eN_len (by omega) rfl)) ?_
            refine GT_st rfl rfl rfl rfl (V_index rfl rfl rfl Tryz.underlying38 sz_3 (k := j) rfl hjl (hO2.isSome (k := j) (by omega))) ?_
            refine GT_storeOwn (enc := eN) (q := j) (xx := d.getD (j - 1) default) rfl rfl rfl rfl rfl rfl rfl sz_3 hO2 eN_len eN_one (by omega) (by decide) (fun _ _ => GR_cons rfl rfl rfl rfl (V_move rfl rfl) (GR_cons rfl rfl rfl rfl (V_move rfl rfl) (GR_cons rfl rfl rfl rfl (V_sub rfl rfl rfl (wrap_i64 (by omega))) (GR_nil)))) (fun I3 hO3 => ?_)
            refine GT_st rfl rfl rfl rfl (V_index rfl rfl rfl Tryz.underlying38 sz_3 (k := j - 1) (by omega) (by omega) (hO2.isSome (k := j - 1) (by omega))) ?_
            refine GT_storeOwn (enc := eN) (q := j - 1) (xx := d.getD j default) rfl rfl rfl rfl rfl rfl rfl sz_3 hO3 eN_len eN_one (by rw [List.length_set]; omega) (by decide) (fun _ _ => GR_nil) (fun I4 hO4 => ?_)
            refine GT_nil ?_
            refine GE_inBlock ?_
            refine GE_slots (L' := [(0, _), (1, _), (2, _), (3, _), (8, _), (9, _), (22, _), (23, _), (24, _), (25, _), (26, _), (27, _), (28, _), (29, _), (30, _), (31, _), (32, _), (33, _)]) ⟨rfl, rfl, rfl, rfl, rfl, rfl, rfl, rfl, rfl, rfl, rfl, rfl, rfl, rfl, rfl, rfl, rfl, rfl, trivial⟩ ?_
            refine GE_plain (.st 0 (.st 1 (.ld 2 [] .nil))) rfl ?_
            refine GT_st rfl rfl rfl rfl (V_move rfl rfl) ?_
            refine GT_st rfl rfl rfl rfl (V_sub rfl rfl rfl (wrap_i64 (by omega))) ?_
            refine GT_ldv rfl rfl rfl rfl rfl (V_assign rfl rfl) (GR_nil) ?_
            refine GT_nil ?_
            exact GE_to (ih2 (j - 1, sw2 d (j - 1), I4) ⟨by dsimp only; omega, by dsimp only; rw [sw2_len]; exact hdl, by dsimp only; exact sw2_mem (by omega) hdm, hst2, by dsimp only; unfold sw2; rw [hj1]; exact hO4⟩ (by dsimp only; omega)) ⟨rfl, rfl, rfl, rfl, rfl, lookI rfl (by dsimp only; omega), trivial⟩ (HS.chunk HS.last)
          · have hst : srq cmp l i = d := (by rw [hst, hst1, if_neg q3])
            refine GE_exit rfl ?_
            refine GE_inBlock ?_
            refine GE_slots (L' := [(0, _), (1, _), (2, _), (3, _), (8, _), (22, _), (23, _), (24, _), (25, _), (26, _), (27, _), (28, _), (29, _), (30, _), (31, _), (32, _), (33, _)]) ⟨rfl, rfl, rfl, rfl, rfl, rfl, rfl, rfl, rfl, rfl, rfl, rfl, rfl, rfl, rfl, rfl, rfl, trivial⟩ ?_
            refine GE_plain (.st 0 (.st 1 (.ld 2 [] .nil))) rfl ?_
            refine GT_st rfl rfl rfl rfl (V_move rfl rfl) ?_
            refine GT_st rfl rfl rfl rfl (V_add rfl rfl rfl (wrap_i64 (by omega))) ?_
            refine GT_ldv rfl rfl rfl rfl rfl (V_assign rfl rfl) (GR_nil) ?_
            refine GT_nil ?_
            exact GE_to (ih (i + 1, I2) ⟨⟨by dsimp only; omega, by dsimp only; omega⟩, by dsimp only; rw [Nat.add_sub_cancel, hst]; exact hO2⟩ (by dsimp only; omega)) ⟨rfl, rfl, rfl, rfl, rfl, trivial⟩ (HS.chunk HS.last)
        · obtain rfl : j = 0 := (by omega); have hst : srq cmp l i = d := hst
          refine GT_skip rfl rfl rfl rfl rfl (by decide) rfl rfl ?_
          refine GT_skip rfl rfl rfl rfl rfl (by decide) rfl rfl ?_
          refine GT_skip rfl rfl rfl rfl rfl (by decide) rfl rfl ?_
          refine GT_skip rfl rfl rfl rfl rfl (by decide) rfl rfl ?_
          refine GT_skip rfl rfl rfl rfl rfl (by decide) rfl rfl ?_
          refine GT_skip rfl rfl rfl rfl rfl (by decide) rfl rfl ?_
          refine GT_skip rfl rfl rfl rfl rfl (by decide) rfl rfl ?_
          refine GT_skip rfl rfl rfl rfl rfl (by decide) rfl rfl ?_
          refine GT_skip rfl rfl rfl rfl rfl (by decide) rfl rfl ?_
          refine GT_skip rfl rfl rfl rfl rfl (by decide) rfl rfl ?_
          refine GT_skip_ld rfl rfl rfl rfl rfl (by decide) rfl rfl rfl (GR_nil) ?_
          refine GT_skip rfl rfl rfl rfl rfl (by decide) rfl rfl ?_
          refine GT_st rfl rfl rfl rfl (V_pick_f rfl rfl rfl) ?_
          refine GT_nil ?_
          refine GE_cond_f rfl ?_
          refine GE_exit rfl ?_
          refine GE_inBlock ?_
          refine GE_slots (L' := [(0, _), (1, _), (2, _), (3, _), (8, _), (22, _), (23, _), (24, _), (25, _), (26, _), (27, _), (28, _), (29, _), (30, _), (31, _), (32, _), (33, _)]) ⟨rfl, rfl, rfl, rfl, rfl, rfl, rfl, rfl, rfl, rfl, rfl, rfl, rfl, rfl, rfl, rfl, rfl, trivial⟩ ?_
          refine GE_plain (.st 0 (.st 1 (.ld 2 [] .nil))) rfl ?_
          refine GT_st rfl rfl rfl rfl (V_move rfl rfl) ?_
          refine GT_st rfl rfl rfl rfl (V_add rfl rfl rfl (wrap_i64 (by omega))) ?_
          refine GT_ldv rfl rfl rfl rfl rfl (V_assign rfl rfl) (GR_nil) ?_
          refine GT_nil ?_
          exact GE_to (ih (i + 1, I2) ⟨⟨by dsimp only; omega, by dsimp only; omega⟩, by dsimp only; rw [Nat.add_sub_cancel, hst]; exact hO2⟩ (by dsimp only; omega)) ⟨rfl, rfl, rfl, rfl, rfl, trivial⟩ (HS.chunk HS.last)
      · exact ⟨hil, hs1, hs2, hsi, hO1⟩
    · obtain rfl : i = l.length := (by omega)
      refine GE_exit rfl ?_
      refine GE_end Tryz.func356 rfl (fun w hw => ⟨I1, hO1, rfl, hw⟩)
      skip
  · exact ⟨⟨Nat.le_refl _, hl.1⟩, hO⟩
end
end Go.Proofs.YtpbflnfcgcldkaaGreatDoor.Side
/- The usual order of tracks, walked. -/
namespace Go.Proofs.YtpbflnfcgcldkaaGreatDoor.Side
open Go.Sx Go.Proofs Go.RowKit
def cmpI (x y : Int) : Int := if x < y then -1 else if y < x then 1 else 0
def lst (ts : List Trk) (x : Int) : Int := (ts.getD x.toNat default).least
def usl (ts : List Trk) (x y : Int) : Int := if cmpI (lst ts y) (lst ts x) = 0 then cmpI x y else cmpI (lst ts y) (lst ts x)
def spL (i n : Nat) : List Int := (List.range n).map fun k => ((i + k : Nat) : Int)
theorem spL_len (i n : Nat) : (spL i n).length = n := by simp [spL]
theorem spL_succ (i n : Nat) : spL i (n + 1) = spL i n ++ [((i + n : Nat) : Int)] := by simp [spL, List.range_succ]
section
variable {w w0 : World} {A A2 : Option Addr} {c c2 g fi : Nat} {l : List Int} {cmp : Int → Int → Int} {G I0 : Items}
theorem C_span {i n : Nat} (h : i + n ≤ 1000) : Con Tryz.prog 205 [I i, I (i + n : Nat)] w (fun y : Option Addr × Nat × Items => Own 1 3 eN (spL i n) (.slice y.1 (spL i n).length y.2.1) y.2.2) (fun y => .slice y.1 (spL i n).length y.2.1) (fun y => y.2.2) := by
  refine Ret_of (vs := [_, _]) hm none' Tryz.func205 rfl Tryz.ntmps205 rfl ?_
  dsimp only [slotsOf]
  refine GE_seq ?_
  refine GE_plain (.st 0 .nil) rfl ?_
  refine GT_st rfl rfl rfl rfl (V_assign rfl rfl) ?_
  refine GT_nil ?_
  refine GE_seq ?_
  refine GE_plain (.st 0 .nil) rfl ?_
  refine GT_st rfl rfl rfl rfl (V_assign rfl rfl) ?_
  refine GT_nil ?_
  refine GE_seq ?_
  refine GE_block ?_
  refine GE_to (GE_loop (ι := Nat × (Option Addr × Nat × Items)) (fun z => n - z.1) (fun z => [(0, I (i + z.1 : Nat)), (1, I (i + n : Nat)), (5, .slice z.2.1 (spL i z.1).length z.2.2.1)]) (fun z => z.2.2.2) (fun z => z.1 ≤ n ∧ Own 1 3 eN (spL i z.1) (.slice z.2.1 (spL i z.1).length z.2.2.1) z.2.2.2) ?_ (0, (none, 0, [])) ?_) ⟨rfl, rfl, rfl, trivial⟩ HS.nil
  · rintro ⟨k, y⟩ ⟨hk, hO⟩ ih; dsimp only at hk hO ih ⊢
    refine GE_seq ?_
    refine GE_seq ?_
    refine GE_plain (.st 0 (.st 1 (.st 2 .nil))) rfl ?_
    refine GT_st rfl rfl rfl rfl (V_move rfl rfl) ?_
    refine GT_st rfl rfl rfl rfl (V_move rfl rfl) ?_
    refine GT_st rfl rfl rfl rfl (V_lss rfl rfl rfl) ?_
    refine GT_nil ?_
    first | refine GE_condNot rfl (fun q1 => ?_) (fun q1 => ?_) | refine GE_cond rfl (fun q1 => ?_) (fun q1 => ?_) | refine GE_condNotB rfl (fun q1 => ?_) (fun q1 => ?_) | refine GE_condB rfl (fun q1 => ?_) (fun q1 => ?_)
    · have hkn : k < n := (by omega); have hsl := spL_len i k
      refine GE_skip ?_
      refine GE_seq ?_
      refine GE_block ?_
      refine GE_plain (.st 0 (.st 1 (.ld 2 [] (.ld 3 [] (.ld 4 [] .nil))))) rfl ?_
      refine GT_st rfl rfl rfl rfl (V_move rfl rfl) ?_
      refine GT_st rfl rfl rfl rfl (V_move rfl rfl) ?_
      refine GT_buildSlice (z := [_]) rfl rfl rfl rfl rfl Tryz.underlying38 zc_3 sz_3 (by decide) rfl rfl (fun _ => GR_nil) (fun b13 => ?_)
      refine GT_append (enc := eN) (l := spL i k) (m := [((i + k : Nat) : Int)]) rfl rfl rfl rfl rfl rfl rfl hO (fun w m => RdL.own' m eN_len) Tryz.underlying38 zc_3 sz_3 ⟨rfl, by decide⟩ by_3 ⟨by rw [hsl]; simp only [List.length_singleton]; omega, by rw [hsl]; simp only [List.length_singleton]; omega⟩ eN_len eN_one (fun _ _ _ _ => GR_nil) (fun A3 c3 I3 hO3 => ?_)
      refine GT_ldv rfl rfl rfl rfl rfl (V_assign rfl rfl) (GR_nil) ?_
      refine GT_nil ?_
      refine GE_inBlock ?_
      refine GE_slots (L' := [(0, _), (1, _), (5, _)]) ⟨rfl, rfl, rfl, trivial⟩ ?_
      refine GE_plain (.st 0 (.st 1 (.ld 2 [] .nil))) rfl ?_
      refine GT_st rfl rfl rfl rfl (V_move rfl rfl) ?_
      refine GT_st rfl rfl rfl rfl (V_add rfl rfl rfl (wrap_i64 (by omega))) ?_
      refine GT_ldv rfl rfl rfl rfl rfl (V_assign rfl rfl) (GR_nil) ?_
      refine GT_nil ?_
      exact GE_to (ih (k + 1, (A3, c3, I3)) ⟨by dsimp only; omega, by dsimp only; rw [spL_succ]; exact hO3⟩ (by dsimp only; omega)) ⟨lookI rfl (by dsimp only; omega), rfl, by dsimp only; rw [spL_succ]; rfl, trivial⟩ HS.last
    · obtain rfl : k = n := (by omega)
      refine GE_exit rfl ?_
      refine GE_seq ?_
      refine GE_slots (L' := [(5, _)]) ⟨rfl, trivial⟩ ?_
      refine GE_plain (.st 0 (.st 1 .nil)) rfl ?_
      refine GT_st rfl rfl rfl rfl (V_move rfl rfl) ?_
      refine GT_st rfl rfl rfl rfl (V_assign rfl rfl) ?_
      refine GT_nil ?_
      refine GE_ret Tryz.func205 rfl (fun w hw => ?_)
      exact ⟨y, hO, rfl, hw.hs (C := cx Tryz.prog hm 0 0 _ none' fun _ _ => True) HS.last⟩
  · exact ⟨Nat.zero_le _, Own.nil⟩
theorem C_CloneI (h : RdL w 1 eN A l) (hA : A.isSome = true) (hl : l.length ≤ 100000) : Con Tryz.prog 90 [.slice A l.length c] w (fun y : Option Addr × Nat × Items => Own 1 3 eN l (.slice y.1 l.length y.2.1) y.2.2) (fun y => .slice y.1 l.length y.2.1) (fun y => y.2.2) := by
  obtain ⟨a, rfl⟩ := Option.isSome_iff_exists.1 hA
  refine Ret_of (vs := [_]) hm none' Tryz.func90 rfl Tryz.ntmps90 rfl ?_
  dsimp only [slotsOf]
  refine GE_seq ?_
  refine GE_plain (.st 0 .nil) rfl ?_
  refine GT_st rfl rfl rfl rfl (V_assign rfl rfl) ?_
  refine GT_nil ?_
  refine GE_seq ?_
  refine GE_seq ?_
  refine GE_plain (.st 0 (.st 1 .nil)) rfl ?_
  refine GT_st rfl rfl rfl rfl (V_move rfl rfl) ?_
  refine GT_st rfl rfl rfl rfl (V_eqlNilF rfl rfl rfl Tryz.underlying38) ?_
  refine GT_nil ?_
  refine GE_cond_f rfl ?_
  refine GE_skip ?_
  refine GE_seq ?_
  refine GE_plain (.ld 0 [] (.st 1 (.ld 2 [] (.st 3 .nil)))) rfl ?_
  refine GT_buildSlice (z := []) rfl rfl rfl rfl rfl Tryz.underlying38 zc_3 sz_3 (by decide) rfl rfl (fun _ => GR_nil) (fun b5 => ?_)
  have ho5 : Own 1 3 eN [] (.slice (some ⟨b5, 0, none⟩) 0 0) [(b5, blk [] 3)] := Own.lit rfl rfl (by decide)
  refine GT_st rfl rfl rfl rfl (V_move rfl rfl) ?_
  refine GT_append (enc := eN) (l := []) (m := l) rfl rfl rfl rfl rfl rfl rfl ho5 (fun w m => h.sh m) Tryz.underlying38 zc_3 sz_3 ⟨rfl, by decide⟩ by_3 ⟨by simp only [List.length_nil]; omega, by simp only [List.length_nil]; omega⟩ eN_len eN_one (fun _ _ _ _ => GR_nil) (fun A3 c3 I3 hO3 => ?_)
  rw [List.nil_append] at hO3 ⊢
  refine GT_st rfl rfl rfl rfl (V_assign rfl rfl) ?_
  refine GT_nil ?_
  refine GE_ret Tryz.func90 rfl (fun w hw => ?_)
  exact ⟨(A3, c3, I3), hO3, rfl, hw.hs (C := cx Tryz.prog hm 0 0 _ none' fun _ _ => True) HS.last⟩
theorem C_isNaNI {x : Int} : Con0 Tryz.prog 365 [I x] w (.bool false) := by
  refine Ret_of (vs := [_]) hm none' Tryz.func365 rfl Tryz.ntmps365 rfl ?_
  dsimp only [slotsOf]
  refine GE_seq ?_
  refine GE_plain (.st 0 .nil) rfl ?_
  refine GT_st rfl rfl rfl rfl (V_assign rfl rfl) ?_
  refine GT_nil ?_
  refine GE_seq ?_
  refine GE_plain (.st 0 (.st 1 (.st 2 (.st 3 .nil)))) rfl ?_
  refine GT_st rfl rfl rfl rfl (V_move rfl rfl) ?_
  refine GT_st rfl rfl rfl rfl (V_move rfl rfl) ?_
  refine GT_st rfl rfl rfl rfl (V_isF (V_neq rfl rfl rfl) (fun q => q rfl)) ?_
  refine GT_st rfl rfl rfl rfl (V_assign rfl rfl) ?_
  refine GT_nil ?_
  refine GE_ret Tryz.func365 rfl (fun w hw => ⟨?_, hw.nil⟩)
  rfl
theorem C_isNaN64 {x : Int} : Con0 Tryz.prog 242 [I x] w (.bool false) := by
  refine Ret_of (vs := [_]) hm none' Tryz.func242 rfl Tryz.ntmps242 rfl ?_
  dsimp only [slotsOf]
  refine GE_seq ?_
  refine GE_plain (.st 0 .nil) rfl ?_
  refine GT_st rfl rfl rfl rfl (V_assign rfl rfl) ?_
  refine GT_nil ?_
  refine GE_seq ?_
  refine GE_plain (.st 0 (.st 1 (.st 2 (.st 3 .nil)))) rfl ?_
  refine GT_st rfl rfl rfl rfl (V_move rfl rfl) ?_
  refine GT_st rfl rfl rfl rfl (V_move rfl rfl) ?_
  refine GT_st rfl rfl rfl rfl (V_isF (V_neq rfl rfl rfl) (fun q => q rfl)) ?_
  refine GT_st rfl rfl rfl rfl (V_assign rfl rfl) ?_
  refine GT_nil ?_
  refine GE_ret Tryz.func242 rfl (fun w hw => ⟨?_, hw.nil⟩)
  rfl
theorem C_CompareI {x y : Int} : Con0 Tryz.prog 346 [I x, I y] w (I (cmpI x y)) := by
  refine Ret_of (vs := [_, _]) hm none' Tryz.func346 rfl Tryz.ntmps346 rfl ?_
  dsimp only [slotsOf]
  refine GE_seq ?_
  refine GE_plain (.st 0 .nil) rfl ?_
  refine GT_st rfl rfl rfl rfl (V_assign rfl rfl) ?_
  refine GT_nil ?_
  refine GE_seq ?_
  refine GE_plain (.st 0 (.ld 1 [] (.st 2 .nil))) rfl ?_
  refine GT_st rfl rfl rfl rfl (V_move rfl rfl) ?_
  refine GT_call0 rfl rfl rfl rfl rfl rfl rfl rfl rn_365 (fun w hw => C_isNaNI) (GR_nil) ?_
  refine GT_st rfl rfl rfl rfl (V_assign rfl rfl) ?_
  refine GT_nil ?_
  refine GE_seq ?_
  refine GE_plain (.st 0 (.ld 1 [] (.st 2 .nil))) rfl ?_
  refine GT_st rfl rfl rfl rfl (V_move rfl rfl) ?_
  refine GT_call0 rfl rfl rfl rfl rfl rfl rfl rfl rn_365 (fun w hw => C_isNaNI) (GR_nil) ?_
  refine GT_st rfl rfl rfl rfl (V_assign rfl rfl) ?_
  refine GT_nil ?_
  refine GE_seq ?_
  refine GE_seq ?_
  refine GE_slots (L' := [(0, _), (1, _), (5, _), (6, _)]) ⟨rfl, rfl, rfl, rfl, trivial⟩ ?_
  refine GE_plain (.st 0 .nil) rfl ?_
  refine GT_st rfl rfl rfl rfl (V_move rfl rfl) ?_
  refine GT_nil ?_
  refine GE_cond_f rfl ?_
  refine GE_skip ?_
  refine GE_seq ?_
  refine GE_seq ?_
  refine GE_plain (.st 0 .nil) rfl ?_
  refine GT_st rfl rfl rfl rfl (V_move rfl rfl) ?_
  refine GT_nil ?_
  refine GE_cond_f rfl ?_
  refine GE_skip ?_
  refine GE_seq ?_
  refine GE_seq ?_
  refine GE_slots (L' := [(0, _), (1, _)]) ⟨rfl, rfl, trivial⟩ ?_
  refine GE_plain (.st 0 (.st 1 (.st 2 .nil))) rfl ?_
  refine GT_st rfl rfl rfl rfl (V_move rfl rfl) ?_
  refine GT_st rfl rfl rfl rfl (V_move rfl rfl) ?_
  refine GT_st rfl rfl rfl rfl (V_lss rfl rfl rfl) ?_
  refine GT_nil ?_
  first | refine GE_condNot rfl (fun q1 => ?_) (fun q1 => ?_) | refine GE_cond rfl (fun q1 => ?_) (fun q1 => ?_) | refine GE_condNotB rfl (fun q1 => ?_) (fun q1 => ?_) | refine GE_condB rfl (fun q1 => ?_) (fun q1 => ?_)
  · skip
    refine GE_seq ?_
    refine GE_slots (L' := []) trivial ?_
    refine GE_plain (.st 0 .nil) rfl ?_
    refine GT_st rfl rfl rfl rfl (V_assign rfl rfl) ?_
    refine GT_nil ?_
    refine GE_ret Tryz.func346 rfl (fun w hw => ⟨?_, hw.nil⟩)
    rw [cmpI, if_pos q1]
  · skip
    refine GE_skip ?_
    refine GE_seq ?_
    refine GE_seq ?_
    refine GE_plain (.st 0 (.st 1 (.st 2 .nil))) rfl ?_
    refine GT_st rfl rfl rfl rfl (V_move rfl rfl) ?_
    refine GT_st rfl rfl rfl rfl (V_move rfl rfl) ?_
    refine GT_st rfl rfl rfl rfl (V_gtr rfl rfl rfl) ?_
    refine GT_nil ?_
    first | refine GE_condNot rfl (fun q2 => ?_) (fun q2 => ?_) | refine GE_cond rfl (fun q2 => ?_) (fun q2 => ?_) | refine GE_condNotB rfl (fun q2 => ?_) (fun q2 => ?_) | refine GE_condB rfl (fun q2 => ?_) (fun q2 => ?_)
    · skip
      refine GE_seq ?_
      refine GE_slots (L' := []) trivial ?_
      refine GE_plain (.st 0 .nil) rfl ?_
      refine GT_st rfl rfl rfl rfl (V_assign rfl rfl) ?_
      refine GT_nil ?_
      refine GE_ret Tryz.func346 rfl (fun w hw => ⟨?_, hw.nil⟩)
      rw [cmpI, if_neg q1, if_pos q2]
    · skip
      refine GE_skip ?_
      refine GE_seq ?_
      refine GE_slots (L' := []) trivial ?_
      refine GE_plain (.st 0 .nil) rfl ?_
      refine GT_st rfl rfl rfl rfl (V_assign rfl rfl) ?_
      refine GT_nil ?_
      refine GE_ret Tryz.func346 rfl (fun w hw => ⟨?_, hw.nil⟩)
      rw [cmpI, if_neg q1, if_neg q2]
theorem C_Compare64 {x y : Int} : Con0 Tryz.prog 345 [I x, I y] w (I (cmpI x y)) := by
  refine Ret_of (vs := [_, _]) hm none' Tryz.func345 rfl Tryz.ntmps345 rfl ?_
  dsimp only [slotsOf]
  refine GE_seq ?_
  refine GE_plain (.st 0 .nil) rfl ?_
  refine GT_st rfl rfl rfl rfl (V_assign rfl rfl) ?_
  refine GT_nil ?_
  refine GE_seq ?_
  refine GE_plain (.st 0 (.ld 1 [] (.st 2 .nil))) rfl ?_
  refine GT_st rfl rfl rfl rfl (V_move rfl rfl) ?_
  refine GT_call0 rfl rfl rfl rfl rfl rfl rfl rfl rn_242 (fun w hw => C_isNaN64) (GR_nil) ?_
  refine GT_st rfl rfl rfl rfl (V_assign rfl rfl) ?_
  refine GT_nil ?_
  refine GE_seq ?_
  refine GE_plain (.st 0 (.ld 1 [] (.st 2 .nil))) rfl ?_
  refine GT_st rfl rfl rfl rfl (V_move rfl rfl) ?_
  refine GT_call0 rfl rfl rfl rfl rfl rfl rfl rfl rn_242 (fun w hw => C_isNaN64) (GR_nil) ?_
  refine GT_st rfl rfl rfl rfl (V_assign rfl rfl) ?_
  refine GT_nil ?_
  refine GE_seq ?_
  refine GE_seq ?_
  refine GE_slots (L' := [(0, _), (1, _), (5, _), (6, _)]) ⟨rfl, rfl, rfl, rfl, trivial⟩ ?_
  refine GE_plain (.st 0 .nil) rfl ?_
  refine GT_st rfl rfl rfl rfl (V_move rfl rfl) ?_
  refine GT_nil ?_
  refine GE_cond_f rfl ?_
  refine GE_skip ?_
  refine GE_seq ?_
  refine GE_seq ?_
  refine GE_plain (.st 0 .nil) rfl ?_
  refine GT_st rfl rfl rfl rfl (V_move rfl rfl) ?_
  refine GT_nil ?_
  refine GE_cond_f rfl ?_
  refine GE_skip ?_
  refine GE_seq ?_
  refine GE_seq ?_
  refine GE_slots (L' := [(0, _), (1, _)]) ⟨rfl, rfl, trivial⟩ ?_
  refine GE_plain (.st 0 (.st 1 (.st 2 .nil))) rfl ?_
  refine GT_st rfl rfl rfl rfl (V_move rfl rfl) ?_
  refine GT_st rfl rfl rfl rfl (V_move rfl rfl) ?_
  refine GT_st rfl rfl rfl rfl (V_lss rfl rfl rfl) ?_
  refine GT_nil ?_
  first | refine GE_condNot rfl (fun q1 => ?_) (fun q1 => ?_) | refine GE_cond rfl (fun q1 => ?_) (fun q1 => ?_) | refine GE_condNotB rfl (fun q1 => ?_) (fun q1 => ?_) | refine GE_condB rfl (fun q1 => ?_) (fun q1 => ?_)
  · skip
    refine GE_seq ?_
    refine GE_slots (L' := []) trivial ?_
    refine GE_plain (.st 0 .nil) rfl ?_
    refine GT_st rfl rfl rfl rfl (V_assign rfl rfl) ?_
    refine GT_nil ?_
    refine GE_ret Tryz.func345 rfl (fun w hw => ⟨?_, hw.nil⟩)
    rw [cmpI, if_pos q1]
  · skip
    refine GE_skip ?_
    refine GE_seq ?_
    refine GE_seq ?_
    refine GE_plain (.st 0 (.st 1 (.st 2 .nil))) rfl ?_
    refine GT_st rfl rfl rfl rfl (V_move rfl rfl) ?_
    refine GT_st rfl rfl rfl rfl (V_move rfl rfl) ?_
    refine GT_st rfl rfl rfl rfl (V_gtr rfl rfl rfl) ?_
    refine GT_nil ?_
    first | refine GE_condNot rfl (fun q2 => ?_) (fun q2 => ?_) | refine GE_cond rfl (fun q2 => ?_) (fun q2 => ?_) | refine GE_condNotB rfl (fun q2 => ?_) (fun q2 => ?_) | refine GE_condB rfl (fun q2 => ?_) (fun q2 => ?_)
    · skip
      refine GE_seq ?_
      refine GE_slots (L' := []) trivial ?_
      refine GE_plain (.st 0 .nil) rfl ?_
      refine GT_st rfl rfl rfl rfl (V_assign rfl rfl) ?_
      refine GT_nil ?_
      refine GE_ret Tryz.func345 rfl (fun w hw => ⟨?_, hw.nil⟩)
      rw [cmpI, if_neg q1, if_pos q2]
    · skip
      refine GE_skip ?_
      refine GE_seq ?_
      refine GE_slots (L' := []) trivial ?_
      refine GE_plain (.st 0 .nil) rfl ?_
      refine GT_st rfl rfl rfl rfl (V_assign rfl rfl) ?_
      refine GT_nil ?_
      refine GE_ret Tryz.func345 rfl (fun w hw => ⟨?_, hw.nil⟩)
      rw [cmpI, if_neg q1, if_neg q2]
theorem C_Or {x y : Int} (h : RdL w 1 eN A [x, y]) : Con0 Tryz.prog 344 [.slice A 2 c] w (I (if x = 0 then y else x)) := by
  have hl0 : 0 < ([x, y] : List Int).length := (show 0 < 2 by decide)
  refine Ret_of (vs := [_]) hm none' Tryz.func344 rfl Tryz.ntmps344 rfl ?_
  dsimp only [slotsOf]
  refine GE_seq ?_
  refine GE_plain (.st 0 .nil) rfl ?_
  refine GT_st rfl rfl rfl rfl (V_assign rfl rfl) ?_
  refine GT_nil ?_
  refine GE_seq ?_
  refine GE_plain (.st 0 .nil) rfl ?_
  refine GT_st rfl rfl rfl rfl (V_assign rfl rfl) ?_
  refine GT_nil ?_
  refine GE_seq ?_
  refine GE_seq ?_
  refine GE_plain (.st 0 (.st 1 (.st 2 .nil))) rfl ?_
  refine GT_st rfl rfl rfl rfl (V_move rfl rfl) ?_
  refine GT_st rfl rfl rfl rfl (V_len rfl Tryz.underlying38 rfl) ?_
  refine GT_st rfl rfl rfl rfl (V_move rfl rfl) ?_
  refine GT_nil ?_
  refine GE_block ?_
  refine GE_to (GE_loop (ι := Nat) (fun k => 2 - k) (fun k => [(3, I 0), (6, .slice A 2 c), (7, I 2), (8, I k)]) (fun k => []) (fun k => k ≤ 2 ∧ ∀ j, j < k → ([x, y] : List Int).getD j default = 0) ?_ 0 ?_) ⟨rfl, rfl, rfl, rfl, trivial⟩ HS.nil
  · rintro k ⟨hk, hall⟩ ih
    refine GE_seq ?_
    refine GE_plain (.st 0 .nil) rfl ?_
    refine GT_st rfl rfl rfl rfl (V_lss rfl rfl rfl) ?_
    refine GT_nil ?_
    refine GE_seq ?_
    first | refine GE_condNot rfl (fun q1 => ?_) (fun q1 => ?_) | refine GE_cond rfl (fun q1 => ?_) (fun q1 => ?_) | refine GE_condNotB rfl (fun q1 => ?_) (fun q1 => ?_) | refine GE_condB rfl (fun q1 => ?_) (fun q1 => ?_)
    · have hkl : k < ([x, y] : List Int).length := (show k < 2 by omega)
      refine GE_skip ?_
      refine GE_seq ?_
      refine GE_block ?_
      refine GE_seq ?_
      refine GE_plain (.st 0 (.st 1 (.st 2 .nil))) rfl ?_
      refine GT_st rfl rfl rfl rfl (V_index rfl rfl rfl Tryz.underlying38 sz_3 (k := k) rfl hkl (h.isSome hkl)) ?_
      refine GT_st rfl rfl rfl rfl (V_load rfl rfl ag_3 (h.at0 noM hkl rfl)) ?_
      refine GT_st rfl rfl rfl rfl (V_assign rfl rfl) ?_
      refine GT_nil ?_
      refine GE_seq ?_
      refine GE_plain (.st 0 (.st 1 (.st 2 .nil))) rfl ?_
      refine GT_st rfl rfl rfl rfl (V_move rfl rfl) ?_
      refine GT_st rfl rfl rfl rfl (V_move rfl rfl) ?_
      refine GT_st rfl rfl rfl rfl (V_neq rfl rfl rfl) ?_
      refine GT_nil ?_
      first | refine GE_condNot rfl (fun q2 => ?_) (fun q2 => ?_) | refine GE_cond rfl (fun q2 => ?_) (fun q2 => ?_) | refine GE_condNotB rfl (fun q2 => ?_) (fun q2 => ?_) | refine GE_condB rfl (fun q2 => ?_) (fun q2 => ?_)
      · skip
        refine GE_seq ?_
        refine GE_slots (L' := [(5, _)]) ⟨rfl, trivial⟩ ?_
        refine GE_plain (.st 0 (.st 1 .nil)) rfl ?_
        refine GT_st rfl rfl rfl rfl (V_move rfl rfl) ?_
        refine GT_st rfl rfl rfl rfl (V_assign rfl rfl) ?_
        refine GT_nil ?_
        refine GE_ret Tryz.func344 rfl (fun w hw => ⟨?_, hw.nil⟩)
        rcases (show k = 0 ∨ k = 1 by omega) with rfl | rfl; (rw [if_neg (show ¬ x = 0 from q2)]; rfl); (rw [if_pos (show x = 0 from hall 0 (by decide))]; rfl)
      · skip
        refine GE_skip ?_
        refine GE_inBlock ?_
        refine GE_slots (L' := [(3, _), (6, _), (7, _), (8, _)]) ⟨rfl, rfl, rfl, rfl, trivial⟩ ?_
        refine GE_plain (.st 0 (.ld 1 [] .nil)) rfl ?_
        refine GT_st rfl rfl rfl rfl (V_add rfl rfl rfl (wrap_i64 (by omega))) ?_
        refine GT_ldv rfl rfl rfl rfl rfl (V_move rfl rfl) (GR_nil) ?_
        refine GT_nil ?_
        exact GE_to (ih (k + 1) ⟨by omega, fun j hj => by by_cases e : j = k; (subst e; exact q2); exact hall j (by omega)⟩ (by omega)) ⟨rfl, rfl, rfl, rfl, trivial⟩ HS.nil
    · obtain rfl : k = 2 := (by omega)
      refine GE_exit rfl ?_
      refine GE_seq ?_
      refine GE_slots (L' := [(3, _)]) ⟨rfl, trivial⟩ ?_
      refine GE_plain (.st 0 (.st 1 .nil)) rfl ?_
      refine GT_st rfl rfl rfl rfl (V_move rfl rfl) ?_
      refine GT_st rfl rfl rfl rfl (V_assign rfl rfl) ?_
      refine GT_nil ?_
      refine GE_ret Tryz.func344 rfl (fun w hw => ⟨?_, hw.nil⟩)
      rw [if_pos (show x = 0 from hall 0 (by decide)), show y = 0 from hall 1 (by decide)]
  · exact ⟨Nat.zero_le _, fun j hj => by omega⟩
variable {f : Fmt} {ts : List Trk}
theorem C_usual {n : Nat} {x y : Int} (hn : n = ts.length) (hb : BlkAt w g (plC f A n c) 304) (h : RdL w 3 eTrk A ts) (hx : 0 ≤ x ∧ x < ts.length) (hy : 0 ≤ y ∧ y < ts.length) : Con0 Tryz.prog 321 [ptr g 0, I x, I y] w (I (usl ts x y)) := by
  subst hn
  refine Ret_of (vs := [_, _, _]) hm none' Tryz.func321 rfl Tryz.ntmps321 rfl ?_
  dsimp only [slotsOf]
  refine GE_seq ?_
  refine GE_plain (.st 0 .nil) rfl ?_
  refine GT_st rfl rfl rfl rfl (V_assign rfl rfl) ?_
  refine GT_nil ?_
  refine GE_seq ?_
  refine GE_drawn (.st 0 (.st 1 (.st 2 (.st 3 (.st 4 (.st 5 (.st 6 (.st 7 (.st 8 (.st 9 (.st 10 (.st 11 (.st 12 (.st 13 (.st 14 (.st 15 (.st 17 (.st 18 (.ld 16 [17, 18] (.ld 19 [] (.ld 20 [] (.ld 21 [] (.st 22 .nil))))))))))))))))))))))) [16, 19, 20, 21] (by decide +kernel) ?_
  refine GT_st rfl rfl rfl rfl (V_move rfl rfl) ?_
  first | refine GT_st rfl rfl rfl rfl (V_nilCheck rfl rfl) ?_ | refine GT_st rfl rfl rfl rfl (V_nilCheck_func rfl rfl) ?_ | refine GT_st rfl rfl rfl rfl (V_nilCheck_yield rfl rfl) ?_
  first | refine GT_st rfl rfl rfl rfl (V_field rfl rfl fo_304_1) ?_ | refine GT_st rfl rfl rfl rfl (V_fieldA rfl rfl fo_304_1) ?_
  first | refine GT_st rfl rfl rfl rfl (V_load rfl rfl ag_95 (CellAt.item rfl)) ?_ | refine GT_st rfl rfl rfl rfl (V_load rfl rfl ag_95 (CellAt.old (hb.cell rfl) (noM _))) ?_
  refine GT_st rfl rfl rfl rfl (V_move rfl rfl) ?_
  refine GT_st rfl rfl rfl rfl (V_index rfl rfl rfl Tryz.underlying95 sz_301 (k := y.toNat) (by omega) (by omega) (h.isSome (k := y.toNat) (by omega))) ?_
  first | refine GT_st rfl rfl rfl rfl (V_field rfl rfl fo_301_2) ?_ | refine GT_st rfl rfl rfl rfl (V_fieldA rfl rfl fo_301_2) ?_
  refine GT_st rfl rfl rfl rfl (V_load rfl rfl ag_2 (show CellAt _ _ _ (I (lst ts y)) from h.at1 (k := y.toNat) noM (by omega) rfl)) ?_
  refine GT_st rfl rfl rfl rfl (V_move rfl rfl) ?_
  first | refine GT_st rfl rfl rfl rfl (V_nilCheck rfl rfl) ?_ | refine GT_st rfl rfl rfl rfl (V_nilCheck_func rfl rfl) ?_ | refine GT_st rfl rfl rfl rfl (V_nilCheck_yield rfl rfl) ?_
  first | refine GT_st rfl rfl rfl rfl (V_field rfl rfl fo_304_1) ?_ | refine GT_st rfl rfl rfl rfl (V_fieldA rfl rfl fo_304_1) ?_
  first | refine GT_st rfl rfl rfl rfl (V_load rfl rfl ag_95 (CellAt.item rfl)) ?_ | refine GT_st rfl rfl rfl rfl (V_load rfl rfl ag_95 (CellAt.old (hb.cell rfl) (noM _))) ?_
  refine GT_st rfl rfl rfl rfl (V_move rfl rfl) ?_
  refine GT_st rfl rfl rfl rfl (V_index rfl rfl rfl Tryz.underlying95 sz_301 (k := x.toNat) (by omega) (by omega) (h.isSome (k := x.toNat) (by omega))) ?_
  first | refine GT_st rfl rfl rfl rfl (V_field rfl rfl fo_301_2) ?_ | refine GT_st rfl rfl rfl rfl (V_fieldA rfl rfl fo_301_2) ?_
  refine GT_st rfl rfl rfl rfl (V_load rfl rfl ag_2 (show CellAt _ _ _ (I (lst ts x)) from h.at1 (k := x.toNat) noM (by omega) rfl)) ?_
  refine GT_st rfl rfl rfl rfl (V_move rfl rfl) ?_
  refine GT_st rfl rfl rfl rfl (V_move rfl rfl) ?_
  refine GT_call0 rfl rfl rfl rfl rfl rfl rfl rfl rn_345 (fun w hw => C_Compare64) (GR_cons rfl rfl rfl rfl (V_move rfl rfl) (GR_cons rfl rfl rfl rfl (V_move rfl rfl) (GR_nil))) ?_
  refine GT_call0 rfl rfl rfl rfl rfl rfl rfl rfl rn_346 (fun w hw => C_CompareI) (GR_nil) ?_
  refine GT_buildSlice (z := [_, _]) rfl rfl rfl rfl rfl Tryz.underlying38 zc_3 sz_3 (by decide) rfl rfl (fun _ => GR_nil) (fun b27 => ?_)
  refine GT_call0 rfl rfl rfl rfl rfl rfl rfl rfl rn_344 (fun w hw => C_Or (RdL.own' (l := [cmpI (lst ts y) (lst ts x), cmpI x y]) hw eN_len)) (GR_nil) ?_
  refine GT_st rfl rfl rfl rfl (V_assign rfl rfl) ?_
  refine GT_nil ?_
  refine GE_ret Tryz.func321 rfl (fun w hw => ⟨?_, hw.nil⟩)
  rfl
end
end Go.Proofs.YtpbflnfcgcldkaaGreatDoor.Side
/- The least radius of the example's groove: the search, walked. -/
namespace Go.Proofs.YtpbflnfcgcldkaaGreatDoor.Side
open Go.Sx Go.Proofs Go.RowKit
section
variable {w w0 : World} {c g bt b8 b3 b5 b p3 p5 : Nat} {r r0 i : Int} {G : Items}
abbrev tB (bt : Nat) (g c : Nat) (r : Int) : Nat × Obj := (bt, blk (trkC (some ⟨g, 0, none⟩) c r 1000) 509)
abbrev fL (b8 : Nat) : Value := .func (.func 281) #[] #[ptr b8 0]
abbrev fl (b3 b5 : Nat) : Value := .func (.func 310) #[] #[ptr b3 0, ptr b5 0]
abbrev ff (b : Nat) : Value := .func (.func 327) #[] #[ptr b 0]
theorem C_Least1 (m : SH w0 none' (tB bt g c r :: (b8, blk [ptr bt 0] 479) :: G) w) (hP : RdL w0 2 eP2 (some ⟨g, 0, none⟩) ptE) (hr : 0 ≤ r ∧ r ≤ 4194304) :
    Ret Tryz.prog 281 [ptr b8 0].toArray w fun v w' => ∃ _ : Unit, True ∧ v = .bool (decide (31831 ≤ r)) ∧ SH w0 none' (tB bt g c r :: (b8, blk [ptr bt 0] 479) :: G) w' := by
  refine Ret_ofH (vs := [_]) hm none' Tryz.func281 rfl Tryz.ntmps281 rfl m ?_
  dsimp only [slotsOf]
  refine GE_seq ?_
  refine GE_plain (.st 0 .nil) rfl ?_
  refine GT_st rfl rfl rfl rfl (V_assign rfl rfl) ?_
  refine GT_nil ?_
  refine GE_seq ?_
  refine GE_plain (.st 0 (.ld 1 [] (.st 2 (.st 3 (.st 4 (.st 5 (.st 6 .nil))))))) rfl ?_
  refine GT_st rfl rfl rfl rfl (V_load rfl rfl ag_479 (CellAt.item rfl)) ?_
  refine GT_call0 rfl rfl rfl rfl rfl rfl rfl rfl rn_282 (fun w hw => C_fault (BlkAt.of hw) (hP.sh hw) hr) (GR_nil) ?_
  refine GT_st rfl rfl rfl rfl (V_move rfl rfl) ?_
  refine GT_st rfl rfl rfl rfl (V_extract rfl rfl rfl) ?_
  refine GT_st rfl rfl rfl rfl (V_extract rfl rfl rfl) ?_
  refine GT_st rfl rfl rfl rfl (V_assign rfl rfl) ?_
  refine GT_st rfl rfl rfl rfl (V_assign rfl rfl) ?_
  refine GT_nil ?_
  refine GE_seq ?_
  refine GE_slots (L' := [(3, _)]) ⟨rfl, trivial⟩ ?_
  refine GE_plain (.st 0 (.st 1 (.st 2 .nil))) rfl ?_
  refine GT_st rfl rfl rfl rfl (V_move rfl rfl) ?_
  refine GT_st rfl rfl rfl rfl (V_eql rfl rfl rfl) ?_
  refine GT_st rfl rfl rfl rfl (V_assign rfl rfl) ?_
  refine GT_nil ?_
  refine GE_ret Tryz.func281 rfl (fun w hw => ?_)
  refine ⟨(), trivial, ?_, hw.hs (C := cx Tryz.prog hm 0 0 w0 none' fun _ _ => True) (HS.cons rfl (HS.cons rfl (HS.last (I := G))))⟩; by_cases e : r ≤ 31830 <;> simp [e] <;> omega
abbrev lH (bt b8 b3 b5 g c : Nat) (r : Int) (G : Items) : Items := tB bt g c r :: (b8, blk [ptr bt 0] 479) :: (b3, blk [ptr bt 0] 479) :: (b5, blk [fL b8] 29) :: G
theorem C_least1 (m : SH w0 none' (lH bt b8 b3 b5 g c r0 G) w) (hP : RdL w0 2 eP2 (some ⟨g, 0, none⟩) ptE) (hr : 0 ≤ r ∧ r ≤ 4194304) :
    Ret Tryz.prog 310 [I r, ptr b3 0, ptr b5 0].toArray w fun v w' => ∃ _ : Unit, True ∧ v = .bool (decide (31831 ≤ r)) ∧ SH w0 none' (lH bt b8 b3 b5 g c r G) w' := by
  refine Ret_ofH (vs := [_, _, _]) hm none' Tryz.func310 rfl Tryz.ntmps310 rfl m ?_
  dsimp only [slotsOf]
  refine GE_seq ?_
  refine GE_plain (.st 0 .nil) rfl ?_
  refine GT_st rfl rfl rfl rfl (V_assign rfl rfl) ?_
  refine GT_nil ?_
  refine GE_seq ?_
  refine GE_plain (.st 0 (.st 1 (.st 2 (.st 3 (.ld 4 [] .nil))))) rfl ?_
  refine GT_st rfl rfl rfl rfl (V_load rfl rfl ag_479 (CellAt.item rfl)) ?_
  refine GT_st rfl rfl rfl rfl (V_move rfl rfl) ?_
  first | refine GT_st rfl rfl rfl rfl (V_nilCheck rfl rfl) ?_ | refine GT_st rfl rfl rfl rfl (V_nilCheck_func rfl rfl) ?_ | refine GT_st rfl rfl rfl rfl (V_nilCheck_yield rfl rfl) ?_
  first | refine GT_st rfl rfl rfl rfl (V_field rfl rfl fo_509_2) ?_ | refine GT_st rfl rfl rfl rfl (V_fieldA rfl rfl fo_509_2) ?_
  refine GT_store (vs := [_]) rfl rfl rfl rfl rfl rfl rfl sz_2 rfl rfl (Nat.le_of_ble_eq_true rfl) rfl (GR_nil) ?_
  refine GT_nil ?_
  refine GE_seq ?_
  refine GE_slots (L' := [(2, _)]) ⟨rfl, trivial⟩ ?_
  refine GE_plain (.st 0 (.ld 1 [] (.st 2 .nil))) rfl ?_
  refine GT_st rfl rfl rfl rfl (V_load rfl rfl ag_29 (CellAt.item rfl)) ?_
  refine GT_callX rfl rfl rfl rfl rfl rfl rfl rfl rn_281 (fun w m => C_Least1 (bt := bt) (b8 := b8) (c := c) (r := r) (G := (b3, blk [ptr bt 0] 479) :: (b5, blk [fL b8] 29) :: G) (by exact m.hs (HS.cons rfl (HS.cons rfl (HS.cons rfl (HS.cons rfl (HS.last (I := G))))))) hP hr) (fun _ _ => GR_nil) (fun _ _ => ?_)
  refine GT_st rfl rfl rfl rfl (V_assign rfl rfl) ?_
  refine GT_nil ?_
  refine GE_ret Tryz.func310 rfl (fun w hw => ?_)
  exact ⟨(), trivial, rfl, hw.hs (C := cx Tryz.prog hm 0 0 w0 none' fun _ _ => True) (HS.cons rfl (HS.cons rfl (HS.cons rfl (HS.cons rfl (HS.last (I := G))))))⟩
abbrev fH (bt b8 b3 b5 b g c : Nat) (r : Int) (G : Items) : Items := (b, blk [fl b3 b5] 310) :: lH bt b8 b3 b5 g c r G
theorem C_first1 (m : SH w0 none' (fH bt b8 b3 b5 b g c r0 G) w) (hP : RdL w0 2 eP2 (some ⟨g, 0, none⟩) ptE) (hr : 0 ≤ r ∧ r ≤ 4194304) :
    Ret Tryz.prog 327 [I r, ptr b 0].toArray w fun v w' => ∃ _ : Unit, True ∧ v = .bool (decide (31831 ≤ r)) ∧ SH w0 none' (fH bt b8 b3 b5 b g c r G) w' := by
  refine Ret_ofH (vs := [_, _]) hm none' Tryz.func327 rfl Tryz.ntmps327 rfl m ?_
  dsimp only [slotsOf]
  refine GE_seq ?_
  refine GE_plain (.st 0 .nil) rfl ?_
  refine GT_st rfl rfl rfl rfl (V_assign rfl rfl) ?_
  refine GT_nil ?_
  refine GE_seq ?_
  refine GE_plain (.st 0 (.st 1 (.ld 2 [] (.st 3 .nil)))) rfl ?_
  refine GT_st rfl rfl rfl rfl (V_load rfl rfl ag_310 (CellAt.item rfl)) ?_
  refine GT_st rfl rfl rfl rfl (V_move rfl rfl) ?_
  refine GT_callX rfl rfl rfl rfl rfl rfl rfl rfl rn_310 (fun w m => C_least1 (bt := bt) (b8 := b8) (c := c) (r0 := r0) (r := r) (G := (b, blk [fl b3 b5] 310) :: G) (by exact m.hs (HS.cons rfl (HS.cons rfl (HS.cons rfl (HS.cons rfl (HS.cons rfl (HS.last (I := G)))))))) hP hr) (fun _ _ => GR_nil) (fun _ _ => ?_)
  refine GT_st rfl rfl rfl rfl (V_assign rfl rfl) ?_
  refine GT_nil ?_
  refine GE_ret Tryz.func327 rfl (fun w hw => ?_)
  exact ⟨(), trivial, rfl, hw.hs (C := cx Tryz.prog hm 0 0 w0 none' fun _ _ => True) (HS.cons rfl (HS.cons rfl (HS.cons rfl (HS.cons rfl (HS.cons rfl (HS.last (I := G)))))))⟩
theorem C_Search (m : SH w0 none' (fH bt b8 b3 b5 b g c 0 G) w) (hP : RdL w0 2 eP2 (some ⟨g, 0, none⟩) ptE) :
    Ret Tryz.prog 326 [I 4194305, ff b].toArray w fun v w' => ∃ r : Int, True ∧ v = I 31831 ∧ SH w0 none' (fH bt b8 b3 b5 b g c r G) w' := by
  refine Ret_ofH (vs := [_, _]) hm none' Tryz.func326 rfl Tryz.ntmps326 rfl m ?_
  dsimp only [slotsOf]
  refine GE_seq ?_
  refine GE_plain (.st 0 .nil) rfl ?_
  refine GT_st rfl rfl rfl rfl (V_assign rfl rfl) ?_
  refine GT_nil ?_
  refine GE_seq ?_
  refine GE_plain (.st 0 (.st 1 (.st 2 .nil))) rfl ?_
  refine GT_st rfl rfl rfl rfl (V_move rfl rfl) ?_
  refine GT_st rfl rfl rfl rfl (V_assign rfl rfl) ?_
  refine GT_st rfl rfl rfl rfl (V_assign rfl rfl) ?_
  refine GT_nil ?_
  refine GE_seq ?_
  refine GE_block ?_
  refine GE_to (GE_loop (ι := Int × Int × Int) (fun z => (z.2.1 - z.1).toNat) (fun z => [(1, ff b), (5, I z.1), (6, I z.2.1)]) (fun z => fH bt b8 b3 b5 b g c z.2.2 G) (fun z => 0 ≤ z.1 ∧ z.1 ≤ 31831 ∧ 31831 ≤ z.2.1 ∧ z.2.1 ≤ 4194305) ?_ (0, 4194305, 0) ?_) ⟨rfl, rfl, rfl, trivial⟩ (HS.all)
  · rintro ⟨i, j, r⟩ hk ih; dsimp only at hk ih ⊢; obtain ⟨h1, h2, h3, h4⟩ := hk
    refine GE_seq ?_
    refine GE_seq ?_
    refine GE_plain (.st 0 (.st 1 (.st 2 .nil))) rfl ?_
    refine GT_st rfl rfl rfl rfl (V_move rfl rfl) ?_
    refine GT_st rfl rfl rfl rfl (V_move rfl rfl) ?_
    refine GT_st rfl rfl rfl rfl (V_lss rfl rfl rfl) ?_
    refine GT_nil ?_
    first | refine GE_condNot rfl (fun q1 => ?_) (fun q1 => ?_) | refine GE_cond rfl (fun q1 => ?_) (fun q1 => ?_) | refine GE_condNotB rfl (fun q1 => ?_) (fun q1 => ?_) | refine GE_condB rfl (fun q1 => ?_) (fun q1 => ?_)
    · skip
      refine GE_skip ?_
      refine GE_block ?_
      refine GE_seq ?_
      refine GE_plain (.st 0 (.st 1 (.st 2 (.st 3 (.st 4 (.st 5 (.st 6 .nil))))))) rfl ?_
      refine GT_st rfl rfl rfl rfl (V_move rfl rfl) ?_
      refine GT_st rfl rfl rfl rfl (V_move rfl rfl) ?_
      refine GT_st rfl rfl rfl rfl (V_add rfl rfl rfl (wrap_i64 (by omega))) ?_
      refine GT_st rfl rfl rfl rfl (V_convII rfl rfl (by rw [Tryz.underlying3]; rfl) Tryz.underlying360 (wrap_u64 (by omega))) ?_
      refine GT_st rfl rfl rfl rfl (V_shr (s := 1) (d := 2) rfl rfl rfl (by decide) (by decide)) ?_
      refine GT_st rfl rfl rfl rfl (V_convII rfl rfl (by rw [Tryz.underlying360]; rfl) Tryz.underlying3 (wrap_i64 (by omega))) ?_
      refine GT_st rfl rfl rfl rfl (V_assign rfl rfl) ?_
      refine GT_nil ?_
      refine GE_seq ?_
      refine GE_slots (L' := [(1, _), (5, _), (6, _), (7, _)]) ⟨rfl, rfl, rfl, rfl, trivial⟩ ?_
      refine GE_plain (.st 0 (.st 1 (.ld 2 [] (.st 3 .nil)))) rfl ?_
      refine GT_st rfl rfl rfl rfl (V_move rfl rfl) ?_
      refine GT_st rfl rfl rfl rfl (V_move rfl rfl) ?_
      refine GT_callX rfl rfl rfl rfl rfl rfl rfl rfl rn_327 (fun w m => C_first1 (r := (i + j) / 2) (r0 := r) (G := G) m hP ⟨by omega, by omega⟩) (fun _ _ => GR_nil) (fun _ _ => ?_)
      first | refine GT_st rfl rfl rfl rfl (V_not rfl rfl) ?_ | refine GT_st rfl rfl rfl rfl (V_notB rfl rfl) ?_
      refine GT_nil ?_
      first | refine GE_condNot rfl (fun q2 => ?_) (fun q2 => ?_) | refine GE_cond rfl (fun q2 => ?_) (fun q2 => ?_) | refine GE_condNotB rfl (fun q2 => ?_) (fun q2 => ?_) | refine GE_condB rfl (fun q2 => ?_) (fun q2 => ?_)
      · skip
        refine GE_slots (L' := [(1, _), (6, _), (7, _)]) ⟨rfl, rfl, rfl, trivial⟩ ?_
        refine GE_plain (.st 0 (.st 1 (.st 2 .nil))) rfl ?_
        refine GT_st rfl rfl rfl rfl (V_move rfl rfl) ?_
        refine GT_st rfl rfl rfl rfl (V_add rfl rfl rfl (wrap_i64 (by omega))) ?_
        refine GT_st rfl rfl rfl rfl (V_assign rfl rfl) ?_
        refine GT_nil ?_
        refine GE_inBlock ?_
        first | exact GE_to (ih ((i + j) / 2 + 1, j, (i + j) / 2) ⟨by dsimp only; omega, by dsimp only; omega, by dsimp only; omega, by dsimp only; omega⟩ (by dsimp only; omega)) ⟨rfl, rfl, rfl, trivial⟩ HS.all | exact GE_to (ih (i, (i + j) / 2, (i + j) / 2) ⟨by dsimp only; omega, by dsimp only; omega, by dsimp only; omega, by dsimp only; omega⟩ (by dsimp only; omega)) ⟨rfl, rfl, rfl, trivial⟩ HS.all
      · have q2 : 31831 ≤ (i + j) / 2 := (by omega)
        refine GE_slots (L' := [(1, _), (5, _), (7, _)]) ⟨rfl, rfl, rfl, trivial⟩ ?_
        refine GE_plain (.st 0 (.st 1 .nil)) rfl ?_
        refine GT_st rfl rfl rfl rfl (V_move rfl rfl) ?_
        refine GT_st rfl rfl rfl rfl (V_assign rfl rfl) ?_
        refine GT_nil ?_
        refine GE_inBlock ?_
        first | exact GE_to (ih ((i + j) / 2 + 1, j, (i + j) / 2) ⟨by dsimp only; omega, by dsimp only; omega, by dsimp only; omega, by dsimp only; omega⟩ (by dsimp only; omega)) ⟨rfl, rfl, rfl, trivial⟩ HS.all | exact GE_to (ih (i, (i + j) / 2, (i + j) / 2) ⟨by dsimp only; omega, by dsimp only; omega, by dsimp only; omega, by dsimp only; omega⟩ (by dsimp only; omega)) ⟨rfl, rfl, rfl, trivial⟩ HS.all
    · have hij : i = 31831 := (by omega)
      refine GE_exit rfl ?_
      refine GE_seq ?_
      refine GE_slots (L' := [(5, _)]) ⟨rfl, trivial⟩ ?_
      refine GE_plain (.st 0 (.st 1 .nil)) rfl ?_
      refine GT_st rfl rfl rfl rfl (V_move rfl rfl) ?_
      refine GT_st rfl rfl rfl rfl (V_assign rfl rfl) ?_
      refine GT_nil ?_
      refine GE_ret Tryz.func326 rfl (fun w hw => ?_)
      subst hij; exact ⟨r, trivial, rfl, hw.hs (C := cx Tryz.prog hm 0 0 w0 none' fun _ _ => True) HS.all⟩
  · exact ⟨by decide, by decide, by decide, by decide⟩
theorem C_gfirst (m : SH w0 none' (lH bt b8 p3 p5 g c 0 G) w) (hP : RdL w0 2 eP2 (some ⟨g, 0, none⟩) ptE) :
    Ret Tryz.prog 309 [I 4194304, fl p3 p5].toArray w fun v w' => ∃ _ : Unit, True ∧ v = I 31831 ∧ SH w0 none' G w' := by
  refine Ret_ofH (vs := [_, _]) hm none' Tryz.func309 rfl Tryz.ntmps309 rfl m ?_
  dsimp only [slotsOf]
  refine GE_seq ?_
  refine GE_plain (.ld 0 [] (.st 1 .nil)) rfl ?_
  refine GT_box (z := [_]) rfl rfl rfl rfl rfl rfl rfl (fun _ => GR_nil) (fun b3 => ?_)
  refine GT_st rfl rfl rfl rfl (V_assign rfl rfl) ?_
  refine GT_nil ?_
  refine GE_seq ?_
  refine GE_plain (.st 0 (.st 1 (.st 2 (.ld 3 [] (.st 4 .nil))))) rfl ?_
  refine GT_st rfl rfl rfl rfl (V_move rfl rfl) ?_
  refine GT_st rfl rfl rfl rfl (V_add rfl rfl rfl ((show IntKind.i64.wrap (4194304 + 1) = 4194305 from by decide))) ?_
  refine GT_st rfl rfl rfl rfl (V_makeFunc rfl rfl rfl) ?_
  refine GT_callX rfl rfl rfl rfl rfl rfl rfl rfl rn_326 (fun w m => C_Search (bt := bt) (b8 := b8) (b3 := p3) (b5 := p5) (b := b3) (c := c) (g := g) (G := G) (by exact m) hP) (fun _ _ => GR_nil) (fun _ _ => ?_)
  refine GT_st rfl rfl rfl rfl (V_assign rfl rfl) ?_
  refine GT_nil ?_
  refine GE_ret Tryz.func309 rfl (fun w hw => ?_)
  exact ⟨(), trivial, rfl, hw.hs (C := cx Tryz.prog hm 0 0 w0 none' fun _ _ => True) (HS.last (I := G))⟩
theorem C_gleast (m : SH w0 none' ((bt, blk (trkC (some ⟨g, 0, none⟩) c 0 0) 509) :: (b8, blk [ptr bt 0] 479) :: G) w) (hP : RdL w0 2 eP2 (some ⟨g, 0, none⟩) ptE) :
    Ret Tryz.prog 280 [ptr bt 0, I 1000, fL b8].toArray w fun v w' => ∃ _ : Unit, True ∧ v = .tuple #[I 31831, I 0] ∧ SH w0 none' G w' := by
  refine Ret_ofH (vs := [_, _, _]) hm none' Tryz.func280 rfl Tryz.ntmps280 rfl m ?_
  dsimp only [slotsOf]
  refine GE_seq ?_
  refine GE_plain (.ld 0 [] (.ld 1 [] (.st 2 (.st 3 .nil)))) rfl ?_
  refine GT_box (z := [_]) rfl rfl rfl rfl rfl rfl rfl (fun _ => GR_nil) (fun b3 => ?_)
  refine GT_box (z := [_]) rfl rfl rfl rfl rfl rfl rfl (fun _ => GR_nil) (fun b5 => ?_)
  refine GT_st rfl rfl rfl rfl (V_assign rfl rfl) ?_
  refine GT_st rfl rfl rfl rfl (V_assign rfl rfl) ?_
  refine GT_nil ?_
  refine GE_seq ?_
  refine GE_slots (L' := [(1, _), (3, _), (5, _)]) ⟨rfl, rfl, rfl, trivial⟩ ?_
  refine GE_plain (.st 0 (.st 1 (.st 2 (.st 3 (.ld 4 [] .nil))))) rfl ?_
  refine GT_st rfl rfl rfl rfl (V_load rfl rfl ag_479 (CellAt.item rfl)) ?_
  refine GT_st rfl rfl rfl rfl (V_move rfl rfl) ?_
  first | refine GT_st rfl rfl rfl rfl (V_nilCheck rfl rfl) ?_ | refine GT_st rfl rfl rfl rfl (V_nilCheck_func rfl rfl) ?_ | refine GT_st rfl rfl rfl rfl (V_nilCheck_yield rfl rfl) ?_
  first | refine GT_st rfl rfl rfl rfl (V_field rfl rfl fo_509_3) ?_ | refine GT_st rfl rfl rfl rfl (V_fieldA rfl rfl fo_509_3) ?_
  refine GT_store (vs := [_]) rfl rfl rfl rfl rfl rfl rfl sz_2 rfl rfl (Nat.le_of_ble_eq_true rfl) rfl (GR_nil) ?_
  refine GT_nil ?_
  refine GE_seq ?_
  refine GE_slots (L' := [(3, _), (5, _)]) ⟨rfl, rfl, trivial⟩ ?_
  refine GE_plain (.st 0 (.ld 1 [] (.st 2 .nil))) rfl ?_
  refine GT_st rfl rfl rfl rfl (V_makeFunc rfl rfl rfl) ?_
  refine GT_callX rfl rfl rfl rfl rfl rfl rfl rfl rn_309 (fun w m => C_gfirst (bt := bt) (b8 := b8) (p3 := b3) (p5 := b5) (c := c) (G := G) (by exact m.hs (HS.cons rfl (HS.cons rfl (HS.cons rfl (HS.cons rfl (HS.last (I := G))))))) hP) (fun _ _ => GR_nil) (fun _ _ => ?_)
  refine GT_st rfl rfl rfl rfl (V_assign rfl rfl) ?_
  refine GT_nil ?_
  refine GE_seq ?_
  refine GE_seq ?_
  refine GE_slots (L' := [(8, _)]) ⟨rfl, trivial⟩ ?_
  refine GE_plain (.st 0 (.st 1 .nil)) rfl ?_
  refine GT_st rfl rfl rfl rfl (V_move rfl rfl) ?_
  refine GT_st rfl rfl rfl rfl (V_isF (V_gtr rfl rfl rfl) (by decide)) ?_
  refine GT_nil ?_
  refine GE_cond_f rfl ?_
  refine GE_skip ?_
  refine GE_seq ?_
  refine GE_plain (.st 0 (.st 1 (.st 2 .nil))) rfl ?_
  refine GT_st rfl rfl rfl rfl (V_move rfl rfl) ?_
  refine GT_st rfl rfl rfl rfl (V_assign rfl rfl) ?_
  refine GT_st rfl rfl rfl rfl (V_assign rfl rfl) ?_
  refine GT_nil ?_
  refine GE_ret Tryz.func280 ⟨_, _, rfl, rfl, rfl⟩ (fun w hw => ?_)
  exact ⟨(), trivial, rfl, hw.hs (C := cx Tryz.prog hm 0 0 w0 none' fun _ _ => True) (HS.last (I := G))⟩
theorem C_Least (hP : RdL w 2 eP2 (some ⟨g, 0, none⟩) ptE) : Con0 Tryz.prog 238 [cutV, .slice (some ⟨g, 0, none⟩) 3 c, I 1000] w (.tuple #[I 31831, I 0]) := by
  refine Ret_of (vs := [_, _, _]) hm none' Tryz.func238 rfl Tryz.ntmps238 rfl ?_
  dsimp only [slotsOf]
  refine GE_seq ?_
  refine GE_plain (.ld 0 [] (.st 1 (.st 2 .nil))) rfl ?_
  refine GT_box (z := [_, _, _, _, _, _, _]) rfl rfl rfl rfl rfl rfl rfl (fun _ => GR_nil) (fun b3 => ?_)
  refine GT_st rfl rfl rfl rfl (V_assign rfl rfl) ?_
  refine GT_st rfl rfl rfl rfl (V_assign rfl rfl) ?_
  refine GT_nil ?_
  refine GE_seq ?_
  refine GE_plain (.st 0 (.st 1 (.ld 2 [] (.st 3 (.st 4 (.st 5 (.ld 6 [] (.ld 7 [] (.st 8 .nil))))))))) rfl ?_
  refine GT_st rfl rfl rfl rfl (V_loadN (vs := [_, _, _, _, _, _, _]) rfl rfl ag_418 sz_418 rfl (CellsAt.item rfl)) ?_
  refine GT_st rfl rfl rfl rfl (V_move rfl rfl) ?_
  refine GT_call rfl rfl rfl rfl rfl rfl rfl rfl rn_278 (fun w hw => C_newTrack (hP.sh hw)) (fun _ _ => GR_nil) (fun bt _ => ?_)
  refine GT_st rfl rfl rfl rfl (V_move rfl rfl) ?_
  refine GT_st rfl rfl rfl rfl (V_extract rfl rfl rfl) ?_
  refine GT_st rfl rfl rfl rfl (V_extract rfl rfl rfl) ?_
  refine GT_alloc rfl rfl rfl rfl rfl zc_479 (fun _ => GR_nil) (fun b8 => ?_)
  refine GT_store (vs := [_]) (l' := [_]) rfl rfl rfl rfl rfl rfl rfl sz_479 rfl rfl (Nat.le_of_ble_eq_true rfl) rfl (GR_nil) ?_
  refine GT_st rfl rfl rfl rfl (V_assign rfl rfl) ?_
  refine GT_nil ?_
  refine GE_seq ?_
  refine GE_seq ?_
  refine GE_slots (L' := [(2, _), (8, _), (9, _)]) ⟨rfl, rfl, rfl, trivial⟩ ?_
  refine GE_plain (.st 0 (.st 1 .nil)) rfl ?_
  refine GT_st rfl rfl rfl rfl (V_move rfl rfl) ?_
  refine GT_st rfl rfl rfl rfl (V_eql rfl rfl rfl) ?_
  refine GT_nil ?_
  refine GE_cond_t rfl ?_
  refine GE_plain (.st 0 (.ld 1 [] (.st 2 .nil))) rfl ?_
  refine GT_st rfl rfl rfl rfl (V_move rfl rfl) ?_
  refine GT_call0 rfl rfl rfl rfl rfl rfl rfl rfl rn_279 (fun w hw => C_checkPlace ⟨by decide, by decide⟩ ⟨by decide, by decide⟩) (GR_nil) ?_
  refine GT_st rfl rfl rfl rfl (V_assign rfl rfl) ?_
  refine GT_nil ?_
  refine GE_seq ?_
  refine GE_seq ?_
  refine GE_slots (L' := [(2, _), (8, _), (9, _)]) ⟨rfl, rfl, rfl, trivial⟩ ?_
  refine GE_plain (.st 0 (.st 1 .nil)) rfl ?_
  refine GT_st rfl rfl rfl rfl (V_move rfl rfl) ?_
  refine GT_st rfl rfl rfl rfl (V_neq rfl rfl rfl) ?_
  refine GT_nil ?_
  refine GE_cond_f rfl ?_
  refine GE_skip ?_
  refine GE_seq ?_
  refine GE_plain (.st 0 (.st 1 (.st 2 (.ld 3 [] (.st 4 (.st 5 (.st 6 (.st 7 .nil)))))))) rfl ?_
  refine GT_st rfl rfl rfl rfl (V_load rfl rfl ag_479 (CellAt.item rfl)) ?_
  refine GT_st rfl rfl rfl rfl (V_move rfl rfl) ?_
  refine GT_st rfl rfl rfl rfl (V_makeFunc rfl rfl rfl) ?_
  refine GT_callX rfl rfl rfl rfl rfl rfl rfl rfl rn_280 (fun w m => C_gleast (bt := bt) (b8 := b8) (c := c) (G := []) (by exact m.hs (HS.cons rfl (HS.cons rfl HS.nil))) hP) (fun _ _ => GR_nil) (fun _ _ => ?_)
  refine GT_st rfl rfl rfl rfl (V_extract rfl rfl rfl) ?_
  refine GT_st rfl rfl rfl rfl (V_extract rfl rfl rfl) ?_
  refine GT_st rfl rfl rfl rfl (V_assign rfl rfl) ?_
  refine GT_st rfl rfl rfl rfl (V_assign rfl rfl) ?_
  refine GT_nil ?_
  refine GE_ret Tryz.func238 ⟨_, _, rfl, rfl, rfl⟩ (fun w hw => ⟨?_, hw.nil⟩)
  rfl
end
end Go.Proofs.YtpbflnfcgcldkaaGreatDoor.Side
/- Parts and programmes: which are valid, walked. -/
namespace Go.Proofs.YtpbflnfcgcldkaaGreatDoor.Take
open Go.Sx Go.Proofs Go.RowKit
section
variable {w : World} {A A2 : Option Addr} {c c2 : Nat}
set_option maxRecDepth 10000 in
theorem C_good {l : List Tk} {x : Prt} {g : Nat} {X Y : Value} (h : Tks w A l) (hg : BlkAt w g [.slice A l.length c, X, Y] 381) :
    Con0 Tryz.prog 209 [ptr g 0, .agg #[I x.tk, I x.fr, I x.to, I x.gap, I x.inn, I x.out, I x.lev]] w (.bool (goodP l x)) := by
  have hd : ∀ q : Bool, (((0 ≤ x.tk ∧ x.tk < (l.length : Int)) ∧ 0 ≤ x.fr ∧ x.fr < x.to ∧ x.to ≤ ((tkOf l x).data.length : Int) ∧ betw x.gap (-4096) 4096 = true ∧ betw x.inn 0 1000 = true ∧ betw x.out 0 1000 = true ∧ betw x.lev 0 4000 = true) ↔ q = true) → Value.bool q = Value.bool (goodP l x) := fun q hq => congrArg Value.bool (by rw [Bool.eq_iff_iff, ← hq, goodP]; simp only [Bool.and_eq_true, decide_eq_true_iff]; simp only [and_assoc])
  refine Ret_of (vs := [_, _]) hm none' Tryz.func209 rfl Tryz.ntmps209 rfl ?_
  dsimp only [slotsOf]
  refine GE_seq ?_
  refine GE_plain (.ld 0 [] (.st 1 .nil)) rfl ?_
  refine GT_box (z := [_, _, _, _, _, _, _]) rfl rfl rfl rfl rfl rfl rfl (fun _ => GR_nil) (fun b3 => ?_)
  refine GT_st rfl rfl rfl rfl (V_assign rfl rfl) ?_
  refine GT_nil ?_
  refine GE_seq ?_
  refine GE_seq ?_
  refine GE_drawn (.st 0 (.st 1 (.st 2 (.st 3 (.st 4 (.st 5 (.st 6 (.st 7 (.st 8 (.st 9 (.st 10 (.st 11 (.st 12 (.st 13 (.st 14 (.st 15 (.st 16 (.st 17 (.st 18 (.st 19 (.st 20 (.st 21 (.st 22 (.st 23 (.st 24 (.st 25 (.st 26 (.st 27 (.st 28 (.st 29 (.st 30 (.st 31 (.st 32 (.st 33 (.st 34 (.st 35 (.st 36 (.st 37 (.st 38 (.st 39 .nil)))))))))))))))))))))))))))))))))))))))) [] (by decide +kernel) ?_
  first | refine GT_st rfl rfl rfl rfl (V_field rfl rfl fo_124_0) ?_ | refine GT_st rfl rfl rfl rfl (V_fieldA rfl rfl fo_124_0) ?_
  refine GT_st rfl rfl rfl rfl (V_load rfl rfl ag_3 (CellAt.item rfl)) ?_
  refine GT_st rfl rfl rfl rfl (V_lss rfl rfl rfl) ?_
  refine GT_st rfl rfl rfl rfl (V_move rfl rfl) ?_
  first | refine GT_splitNot (d := 8) rfl (fun h1 => ?_) (fun h1 => ?_) | refine GT_split (d := 8) rfl (fun h1 => ?_) (fun h1 => ?_) | refine GT_splitNotB (d := 8) rfl (fun h1 => ?_) (fun h1 => ?_) | refine GT_splitB (d := 8) rfl (fun h1 => ?_) (fun h1 => ?_)
  · skip
    refine GT_skip rfl rfl rfl rfl rfl (by decide) rfl rfl ?_
    refine GT_skip rfl rfl rfl rfl rfl (by decide) rfl rfl ?_
    refine GT_skip rfl rfl rfl rfl rfl (by decide) rfl rfl ?_
    refine GT_skip rfl rfl rfl rfl rfl (by decide) rfl rfl ?_
    refine GT_skip rfl rfl rfl rfl rfl (by decide) rfl rfl ?_
    refine GT_skip rfl rfl rfl rfl rfl (by decide) rfl rfl ?_
    refine GT_skip rfl rfl rfl rfl rfl (by decide) rfl rfl ?_
    refine GT_skip rfl rfl rfl rfl rfl (by decide) rfl rfl ?_
    refine GT_st rfl rfl rfl rfl (V_pick_t rfl rfl rfl) ?_
    refine GT_st rfl rfl rfl rfl (V_move rfl rfl) ?_
    refine GT_skip rfl rfl rfl rfl rfl (by decide) rfl rfl ?_
    refine GT_skip rfl rfl rfl rfl rfl (by decide) rfl rfl ?_
    refine GT_skip rfl rfl rfl rfl rfl (by decide) rfl rfl ?_
    refine GT_st rfl rfl rfl rfl (V_pick_t rfl rfl rfl) ?_
    refine GT_st rfl rfl rfl rfl (V_move rfl rfl) ?_
    refine GT_skip rfl rfl rfl rfl rfl (by decide) rfl rfl ?_
    refine GT_skip rfl rfl rfl rfl rfl (by decide) rfl rfl ?_
    refine GT_skip rfl rfl rfl rfl rfl (by decide) rfl rfl ?_
    refine GT_skip rfl rfl rfl rfl rfl (by decide) rfl rfl ?_
    refine GT_skip rfl rfl rfl rfl rfl (by decide) rfl rfl ?_
    refine GT_st rfl rfl rfl rfl (V_pick_t rfl rfl rfl) ?_
    refine GT_st rfl rfl rfl rfl (V_move rfl rfl) ?_
    refine GT_skip rfl rfl rfl rfl rfl (by decide) rfl rfl ?_
    refine GT_skip rfl rfl rfl rfl rfl (by decide) rfl rfl ?_
    refine GT_skip rfl rfl rfl rfl rfl (by decide) rfl rfl ?_
    refine GT_skip rfl rfl rfl rfl rfl (by decide) rfl rfl ?_
    refine GT_skip rfl rfl rfl rfl rfl (by decide) rfl rfl ?_
    refine GT_skip rfl rfl rfl rfl rfl (by decide) rfl rfl ?_
    refine GT_skip rfl rfl rfl rfl rfl (by decide) rfl rfl ?_
    refine GT_skip rfl rfl rfl rfl rfl (by decide) rfl rfl ?_
    refine GT_skip rfl rfl rfl rfl rfl (by decide) rfl rfl ?_
    refine GT_skip rfl rfl rfl rfl rfl (by decide) rfl rfl ?_
    refine GT_skip rfl rfl rfl rfl rfl (by decide) rfl rfl ?_
    refine GT_skip rfl rfl rfl rfl rfl (by decide) rfl rfl ?_
    refine GT_skip rfl rfl rfl rfl rfl (by decide) rfl rfl ?_
    refine GT_st rfl rfl rfl rfl (V_pick_t rfl rfl rfl) ?_
    refine GT_nil ?_
    refine GE_cond_t rfl ?_
    refine GE_seq ?_
    refine GE_slots (L' := []) trivial ?_
    refine GE_plain (.st 0 .nil) rfl ?_
    refine GT_st rfl rfl rfl rfl (V_assign rfl rfl) ?_
    refine GT_nil ?_
    refine GE_ret Tryz.func209 rfl (fun w hw => ⟨?_, hw.nil⟩)
    refine hd _ ?_; first | exact ⟨fun ⟨⟨a1, a2⟩, a3, a4, a5, a6, a7, a8, a9⟩ => (by first | omega | (unfold tkOf at a5; omega) | exact absurd (h6.symm.trans a6) (by decide) | exact absurd (h7.symm.trans a7) (by decide) | exact absurd (h8.symm.trans a8) (by decide)), fun a => by cases a⟩ | exact ⟨fun a => a.2.2.2.2.2.2.2, fun a => ⟨⟨by omega, by omega⟩, by omega, by omega, by unfold tkOf; omega, h6, h7, h8, a⟩⟩
  · skip
    first | refine GT_st_g rfl rfl rfl rfl rfl rfl rfl (V_field rfl rfl fo_124_0) ?_ | refine GT_st_g rfl rfl rfl rfl rfl rfl rfl (V_fieldA rfl rfl fo_124_0) ?_
    refine GT_st_g rfl rfl rfl rfl rfl rfl rfl (V_load rfl rfl ag_3 (CellAt.item rfl)) ?_
    refine GT_st_g rfl rfl rfl rfl rfl rfl rfl (V_move rfl rfl) ?_
    first | refine GT_st_g rfl rfl rfl rfl rfl rfl rfl (V_nilCheck rfl rfl) ?_ | refine GT_st_g rfl rfl rfl rfl rfl rfl rfl (V_nilCheck_func rfl rfl) ?_ | refine GT_st_g rfl rfl rfl rfl rfl rfl rfl (V_nilCheck_yield rfl rfl) ?_
    first | refine GT_st_g rfl rfl rfl rfl rfl rfl rfl (V_field rfl rfl fo_381_0) ?_ | refine GT_st_g rfl rfl rfl rfl rfl rfl rfl (V_fieldA rfl rfl fo_381_0) ?_
    refine GT_st_g rfl rfl rfl rfl rfl rfl rfl (V_load rfl rfl ag_107 (.old (hg.cell rfl) (noM _))) ?_
    refine GT_st_g rfl rfl rfl rfl rfl rfl rfl (V_len rfl Tryz.underlying107 rfl) ?_
    refine GT_st_g rfl rfl rfl rfl rfl rfl rfl (V_geq rfl rfl rfl) ?_
    refine GT_st rfl rfl rfl rfl (V_pick_f rfl rfl rfl) ?_
    refine GT_st rfl rfl rfl rfl (V_move rfl rfl) ?_
    first | refine GT_splitNot (d := 18) rfl (fun h2 => ?_) (fun h2 => ?_) | refine GT_split (d := 18) rfl (fun h2 => ?_) (fun h2 => ?_) | refine GT_splitNotB (d := 18) rfl (fun h2 => ?_) (fun h2 => ?_) | refine GT_splitB (d := 18) rfl (fun h2 => ?_) (fun h2 => ?_)
    · skip
      refine GT_skip rfl rfl rfl rfl rfl (by decide) rfl rfl ?_
      refine GT_skip rfl rfl rfl rfl rfl (by decide) rfl rfl ?_
      refine GT_skip rfl rfl rfl rfl rfl (by decide) rfl rfl ?_
      refine GT_st rfl rfl rfl rfl (V_pick_t rfl rfl rfl) ?_
      refine GT_st rfl rfl rfl rfl (V_move rfl rfl) ?_
      refine GT_skip rfl rfl rfl rfl rfl (by decide) rfl rfl ?_
      refine GT_skip rfl rfl rfl rfl rfl (by decide) rfl rfl ?_
      refine GT_skip rfl rfl rfl rfl rfl (by decide) rfl rfl ?_
      refine GT_skip rfl rfl rfl rfl rfl (by decide) rfl rfl ?_
      refine GT_skip rfl rfl rfl rfl rfl (by decide) rfl rfl ?_
      refine GT_st rfl rfl rfl rfl (V_pick_t rfl rfl rfl) ?_
      refine GT_st rfl rfl rfl rfl (V_move rfl rfl) ?_
      refine GT_skip rfl rfl rfl rfl rfl (by decide) rfl rfl ?_
      refine GT_skip rfl rfl rfl rfl rfl (by decide) rfl rfl ?_
      refine GT_skip rfl rfl rfl rfl rfl (by decide) rfl rfl ?_
      refine GT_skip rfl rfl rfl rfl rfl (by decide) rfl rfl ?_
      refine GT_skip rfl rfl rfl rfl rfl (by decide) rfl rfl ?_
      refine GT_skip rfl rfl rfl rfl rfl (by decide) rfl rfl ?_
      refine GT_skip rfl rfl rfl rfl rfl (by decide) rfl rfl ?_
      refine GT_skip rfl rfl rfl rfl rfl (by decide) rfl rfl ?_
      refine GT_skip rfl rfl rfl rfl rfl (by decide) rfl rfl ?_
      refine GT_skip rfl rfl rfl rfl rfl (by decide) rfl rfl ?_
      refine GT_skip rfl rfl rfl rfl rfl (by decide) rfl rfl ?_
      refine GT_skip rfl rfl rfl rfl rfl (by decide) rfl rfl ?_
      refine GT_skip rfl rfl rfl rfl rfl (by decide) rfl rfl ?_
      refine GT_st rfl rfl rfl rfl (V_pick_t rfl rfl rfl) ?_
      refine GT_nil ?_
      refine GE_cond_t rfl ?_
      refine GE_seq ?_
      refine GE_slots (L' := []) trivial ?_
      refine GE_plain (.st 0 .nil) rfl ?_
      refine GT_st rfl rfl rfl rfl (V_assign rfl rfl) ?_
      refine GT_nil ?_
      refine GE_ret Tryz.func209 rfl (fun w hw => ⟨?_, hw.nil⟩)
      refine hd _ ?_; first | exact ⟨fun ⟨⟨a1, a2⟩, a3, a4, a5, a6, a7, a8, a9⟩ => (by first | omega | (unfold tkOf at a5; omega) | exact absurd (h6.symm.trans a6) (by decide) | exact absurd (h7.symm.trans a7) (by decide) | exact absurd (h8.symm.trans a8) (by decide)), fun a => by cases a⟩ | exact ⟨fun a => a.2.2.2.2.2.2.2, fun a => ⟨⟨by omega, by omega⟩, by omega, by omega, by unfold tkOf; omega, h6, h7, h8, a⟩⟩
    · skip
      first | refine GT_st_g rfl rfl rfl rfl rfl rfl rfl (V_field rfl rfl fo_124_1) ?_ | refine GT_st_g rfl rfl rfl rfl rfl rfl rfl (V_fieldA rfl rfl fo_124_1) ?_
      refine GT_st_g rfl rfl rfl rfl rfl rfl rfl (V_load rfl rfl ag_3 (CellAt.item rfl)) ?_
      refine GT_st_g rfl rfl rfl rfl rfl rfl rfl (V_lss rfl rfl rfl) ?_
      refine GT_st rfl rfl rfl rfl (V_pick_f rfl rfl rfl) ?_
      refine GT_st rfl rfl rfl rfl (V_move rfl rfl) ?_
      first | refine GT_splitNot (d := 23) rfl (fun h3 => ?_) (fun h3 => ?_) | refine GT_split (d := 23) rfl (fun h3 => ?_) (fun h3 => ?_) | refine GT_splitNotB (d := 23) rfl (fun h3 => ?_) (fun h3 => ?_) | refine GT_splitB (d := 23) rfl (fun h3 => ?_) (fun h3 => ?_)
      · skip
        refine GT_skip rfl rfl rfl rfl rfl (by decide) rfl rfl ?_
        refine GT_skip rfl rfl rfl rfl rfl (by decide) rfl rfl ?_
        refine GT_skip rfl rfl rfl rfl rfl (by decide) rfl rfl ?_
        refine GT_skip rfl rfl rfl rfl rfl (by decide) rfl rfl ?_
        refine GT_skip rfl rfl rfl rfl rfl (by decide) rfl rfl ?_
        refine GT_st rfl rfl rfl rfl (V_pick_t rfl rfl rfl) ?_
        refine GT_st rfl rfl rfl rfl (V_move rfl rfl) ?_
        refine GT_skip rfl rfl rfl rfl rfl (by decide) rfl rfl ?_
        refine GT_skip rfl rfl rfl rfl rfl (by decide) rfl rfl ?_
        refine GT_skip rfl rfl rfl rfl rfl (by decide) rfl rfl ?_
        refine GT_skip rfl rfl rfl rfl rfl (by decide) rfl rfl ?_
        refine GT_skip rfl rfl rfl rfl rfl (by decide) rfl rfl ?_
        refine GT_skip rfl rfl rfl rfl rfl (by decide) rfl rfl ?_
        refine GT_skip rfl rfl rfl rfl rfl (by decide) rfl rfl ?_
        refine GT_skip rfl rfl rfl rfl rfl (by decide) rfl rfl ?_
        refine GT_skip rfl rfl rfl rfl rfl (by decide) rfl rfl ?_
        refine GT_skip rfl rfl rfl rfl rfl (by decide) rfl rfl ?_
        refine GT_skip rfl rfl rfl rfl rfl (by decide) rfl rfl ?_
        refine GT_skip rfl rfl rfl rfl rfl (by decide) rfl rfl ?_
        refine GT_skip rfl rfl rfl rfl rfl (by decide) rfl rfl ?_
        refine GT_st rfl rfl rfl rfl (V_pick_t rfl rfl rfl) ?_
        refine GT_nil ?_
        refine GE_cond_t rfl ?_
        refine GE_seq ?_
        refine GE_slots (L' := []) trivial ?_
        refine GE_plain (.st 0 .nil) rfl ?_
        refine GT_st rfl rfl rfl rfl (V_assign rfl rfl) ?_
        refine GT_nil ?_
        refine GE_ret Tryz.func209 rfl (fun w hw => ⟨?_, hw.nil⟩)
        refine hd _ ?_; first | exact ⟨fun ⟨⟨a1, a2⟩, a3, a4, a5, a6, a7, a8, a9⟩ => (by first | omega | (unfold tkOf at a5; omega) | exact absurd (h6.symm.trans a6) (by decide) | exact absurd (h7.symm.trans a7) (by decide) | exact absurd (h8.symm.trans a8) (by decide)), fun a => by cases a⟩ | exact ⟨fun a => a.2.2.2.2.2.2.2, fun a => ⟨⟨by omega, by omega⟩, by omega, by omega, by unfold tkOf; omega, h6, h7, h8, a⟩⟩
      · skip
        first | refine GT_st_g rfl rfl rfl rfl rfl rfl rfl (V_field rfl rfl fo_124_1) ?_ | refine GT_st_g rfl rfl rfl rfl rfl rfl rfl (V_fieldA rfl rfl fo_124_1) ?_
        refine GT_st_g rfl rfl rfl rfl rfl rfl rfl (V_load rfl rfl ag_3 (CellAt.item rfl)) ?_
        first | refine GT_st_g rfl rfl rfl rfl rfl rfl rfl (V_field rfl rfl fo_124_2) ?_ | refine GT_st_g rfl rfl rfl rfl rfl rfl rfl (V_fieldA rfl rfl fo_124_2) ?_
        refine GT_st_g rfl rfl rfl rfl rfl rfl rfl (V_load rfl rfl ag_3 (CellAt.item rfl)) ?_
        refine GT_st_g rfl rfl rfl rfl rfl rfl rfl (V_geq rfl rfl rfl) ?_
        refine GT_st rfl rfl rfl rfl (V_pick_f rfl rfl rfl) ?_
        refine GT_st rfl rfl rfl rfl (V_move rfl rfl) ?_
        first | refine GT_splitNot (d := 30) rfl (fun h4 => ?_) (fun h4 => ?_) | refine GT_split (d := 30) rfl (fun h4 => ?_) (fun h4 => ?_) | refine GT_splitNotB (d := 30) rfl (fun h4 => ?_) (fun h4 => ?_) | refine GT_splitB (d := 30) rfl (fun h4 => ?_) (fun h4 => ?_)
        · skip
          refine GT_skip rfl rfl rfl rfl rfl (by decide) rfl rfl ?_
          refine GT_skip rfl rfl rfl rfl rfl (by decide) rfl rfl ?_
          refine GT_skip rfl rfl rfl rfl rfl (by decide) rfl rfl ?_
          refine GT_skip rfl rfl rfl rfl rfl (by decide) rfl rfl ?_
          refine GT_skip rfl rfl rfl rfl rfl (by decide) rfl rfl ?_
          refine GT_skip rfl rfl rfl rfl rfl (by decide) rfl rfl ?_
          refine GT_skip rfl rfl rfl rfl rfl (by decide) rfl rfl ?_
          refine GT_skip rfl rfl rfl rfl rfl (by decide) rfl rfl ?_
          refine GT_skip rfl rfl rfl rfl rfl (by decide) rfl rfl ?_
          refine GT_skip rfl rfl rfl rfl rfl (by decide) rfl rfl ?_
          refine GT_skip rfl rfl rfl rfl rfl (by decide) rfl rfl ?_
          refine GT_skip rfl rfl rfl rfl rfl (by decide) rfl rfl ?_
          refine GT_skip rfl rfl rfl rfl rfl (by decide) rfl rfl ?_
          refine GT_st rfl rfl rfl rfl (V_pick_t rfl rfl rfl) ?_
          refine GT_nil ?_
          refine GE_cond_t rfl ?_
          refine GE_seq ?_
          refine GE_slots (L' := []) trivial ?_
          refine GE_plain (.st 0 .nil) rfl ?_
          refine GT_st rfl rfl rfl rfl (V_assign rfl rfl) ?_
          refine GT_nil ?_
          refine GE_ret Tryz.func209 rfl (fun w hw => ⟨?_, hw.nil⟩)
          refine hd _ ?_; first | exact ⟨fun ⟨⟨a1, a2⟩, a3, a4, a5, a6, a7, a8, a9⟩ => (by first | omega | (unfold tkOf at a5; omega) | exact absurd (h6.symm.trans a6) (by decide) | exact absurd (h7.symm.trans a7) (by decide) | exact absurd (h8.symm.trans a8) (by decide)), fun a => by cases a⟩ | exact ⟨fun a => a.2.2.2.2.2.2.2, fun a => ⟨⟨by omega, by omega⟩, by omega, by omega, by unfold tkOf; omega, h6, h7, h8, a⟩⟩
        · have hk : x.tk.toNat < l.length := (by omega)
          first | refine GT_st_g rfl rfl rfl rfl rfl rfl rfl (V_field rfl rfl fo_124_2) ?_ | refine GT_st_g rfl rfl rfl rfl rfl rfl rfl (V_fieldA rfl rfl fo_124_2) ?_
          refine GT_st_g rfl rfl rfl rfl rfl rfl rfl (V_load rfl rfl ag_3 (CellAt.item rfl)) ?_
          refine GT_st_g rfl rfl rfl rfl rfl rfl rfl (V_move rfl rfl) ?_
          first | refine GT_st_g rfl rfl rfl rfl rfl rfl rfl (V_nilCheck rfl rfl) ?_ | refine GT_st_g rfl rfl rfl rfl rfl rfl rfl (V_nilCheck_func rfl rfl) ?_ | refine GT_st_g rfl rfl rfl rfl rfl rfl rfl (V_nilCheck_yield rfl rfl) ?_
          first | refine GT_st_g rfl rfl rfl rfl rfl rfl rfl (V_field rfl rfl fo_381_0) ?_ | refine GT_st_g rfl rfl rfl rfl rfl rfl rfl (V_fieldA rfl rfl fo_381_0) ?_
          refine GT_st_g rfl rfl rfl rfl rfl rfl rfl (V_load rfl rfl ag_107 (.old (hg.cell rfl) (noM _))) ?_
          first | refine GT_st_g rfl rfl rfl rfl rfl rfl rfl (V_field rfl rfl fo_124_0) ?_ | refine GT_st_g rfl rfl rfl rfl rfl rfl rfl (V_fieldA rfl rfl fo_124_0) ?_
          refine GT_st_g rfl rfl rfl rfl rfl rfl rfl (V_load rfl rfl ag_3 (CellAt.item rfl)) ?_
          refine GT_st_g rfl rfl rfl rfl rfl rfl rfl (V_index rfl rfl rfl Tryz.underlying107 sz_230 (k := x.tk.toNat) (by omega) hk (h.1.isSome hk)) ?_
          first | refine GT_st_g rfl rfl rfl rfl rfl rfl rfl (V_field rfl rfl fo_230_1) ?_ | refine GT_st_g rfl rfl rfl rfl rfl rfl rfl (V_fieldA rfl rfl fo_230_1) ?_
          refine GT_st_g rfl rfl rfl rfl rfl rfl rfl (V_load rfl rfl ag_228 (h.1.at1 noM hk rfl)) ?_
          refine GT_st_g rfl rfl rfl rfl rfl rfl rfl (V_len rfl Tryz.underlying228 rfl) ?_
          refine GT_st_g rfl rfl rfl rfl rfl rfl rfl (V_gtr rfl rfl rfl) ?_
          refine GT_st rfl rfl rfl rfl (V_pick_f rfl rfl rfl) ?_
          refine GT_nil ?_
          first | refine GE_condNot rfl (fun h5 => ?_) (fun h5 => ?_) | refine GE_cond rfl (fun h5 => ?_) (fun h5 => ?_) | refine GE_condNotB rfl (fun h5 => ?_) (fun h5 => ?_) | refine GE_condB rfl (fun h5 => ?_) (fun h5 => ?_)
          · skip
            refine GE_seq ?_
            refine GE_slots (L' := []) trivial ?_
            refine GE_plain (.st 0 .nil) rfl ?_
            refine GT_st rfl rfl rfl rfl (V_assign rfl rfl) ?_
            refine GT_nil ?_
            refine GE_ret Tryz.func209 rfl (fun w hw => ⟨?_, hw.nil⟩)
            refine hd _ ?_; first | exact ⟨fun ⟨⟨a1, a2⟩, a3, a4, a5, a6, a7, a8, a9⟩ => (by first | omega | (unfold tkOf at a5; omega) | exact absurd (h6.symm.trans a6) (by decide) | exact absurd (h7.symm.trans a7) (by decide) | exact absurd (h8.symm.trans a8) (by decide)), fun a => by cases a⟩ | exact ⟨fun a => a.2.2.2.2.2.2.2, fun a => ⟨⟨by omega, by omega⟩, by omega, by omega, by unfold tkOf; omega, h6, h7, h8, a⟩⟩
          · skip
            refine GE_skip ?_
            refine GE_seq ?_
            refine GE_slots (L' := [(3, _)]) ⟨rfl, trivial⟩ ?_
            refine GE_plain (.st 0 (.st 1 (.ld 2 [] (.st 3 (.st 4 (.st 5 (.ld 6 [] (.st 7 (.st 8 (.st 9 (.st 10 (.ld 11 [] (.st 12 (.st 13 (.st 14 (.st 15 (.ld 16 [] (.st 17 (.st 18 .nil))))))))))))))))))) rfl ?_
            first | refine GT_st rfl rfl rfl rfl (V_field rfl rfl fo_124_3) ?_ | refine GT_st rfl rfl rfl rfl (V_fieldA rfl rfl fo_124_3) ?_
            refine GT_st rfl rfl rfl rfl (V_load rfl rfl ag_3 (CellAt.item rfl)) ?_
            refine GT_call0 rfl rfl rfl rfl rfl rfl rfl rfl rn_248 (fun w hw => C_between) (GR_nil) ?_
            refine GT_st rfl rfl rfl rfl (V_move rfl rfl) ?_
            first | refine GT_splitNot (d := 48) rfl (fun h6 => ?_) (fun h6 => ?_) | refine GT_split (d := 48) rfl (fun h6 => ?_) (fun h6 => ?_) | refine GT_splitNotB (d := 48) rfl (fun h6 => ?_) (fun h6 => ?_) | refine GT_splitB (d := 48) rfl (fun h6 => ?_) (fun h6 => ?_)
            · skip
              first | refine GT_st_g rfl rfl rfl rfl rfl rfl rfl (V_field rfl rfl fo_124_4) ?_ | refine GT_st_g rfl rfl rfl rfl rfl rfl rfl (V_fieldA rfl rfl fo_124_4) ?_
              refine GT_st_g rfl rfl rfl rfl rfl rfl rfl (V_load rfl rfl ag_3 (CellAt.item rfl)) ?_
              refine GT_call0_g rfl rfl rfl rfl rfl rfl rfl rfl rfl rfl rfl rn_248 (fun w hw => C_between) (GR_nil) ?_
              refine GT_st rfl rfl rfl rfl (V_pick_t rfl rfl rfl) ?_
              refine GT_st rfl rfl rfl rfl (V_move rfl rfl) ?_
              first | refine GT_splitNot (d := 53) rfl (fun h7 => ?_) (fun h7 => ?_) | refine GT_split (d := 53) rfl (fun h7 => ?_) (fun h7 => ?_) | refine GT_splitNotB (d := 53) rfl (fun h7 => ?_) (fun h7 => ?_) | refine GT_splitB (d := 53) rfl (fun h7 => ?_) (fun h7 => ?_)
              · skip
                first | refine GT_st_g rfl rfl rfl rfl rfl rfl rfl (V_field rfl rfl fo_124_5) ?_ | refine GT_st_g rfl rfl rfl rfl rfl rfl rfl (V_fieldA rfl rfl fo_124_5) ?_
                refine GT_st_g rfl rfl rfl rfl rfl rfl rfl (V_load rfl rfl ag_3 (CellAt.item rfl)) ?_
                refine GT_call0_g rfl rfl rfl rfl rfl rfl rfl rfl rfl rfl rfl rn_248 (fun w hw => C_between) (GR_nil) ?_
                refine GT_st rfl rfl rfl rfl (V_pick_t rfl rfl rfl) ?_
                refine GT_st rfl rfl rfl rfl (V_move rfl rfl) ?_
                first | refine GT_splitNot (d := 58) rfl (fun h8 => ?_) (fun h8 => ?_) | refine GT_split (d := 58) rfl (fun h8 => ?_) (fun h8 => ?_) | refine GT_splitNotB (d := 58) rfl (fun h8 => ?_) (fun h8 => ?_) | refine GT_splitB (d := 58) rfl (fun h8 => ?_) (fun h8 => ?_)
                · skip
                  first | refine GT_st_g rfl rfl rfl rfl rfl rfl rfl (V_field rfl rfl fo_124_6) ?_ | refine GT_st_g rfl rfl rfl rfl rfl rfl rfl (V_fieldA rfl rfl fo_124_6) ?_
                  refine GT_st_g rfl rfl rfl rfl rfl rfl rfl (V_load rfl rfl ag_2 (CellAt.item rfl)) ?_
                  refine GT_call0_g rfl rfl rfl rfl rfl rfl rfl rfl rfl rfl rfl rn_248 (fun w hw => C_between) (GR_nil) ?_
                  refine GT_st rfl rfl rfl rfl (V_pick_t rfl rfl rfl) ?_
                  refine GT_st rfl rfl rfl rfl (V_assign rfl rfl) ?_
                  refine GT_nil ?_
                  refine GE_ret Tryz.func209 rfl (fun w hw => ⟨?_, hw.nil⟩)
                  refine hd _ ?_; first | exact ⟨fun ⟨⟨a1, a2⟩, a3, a4, a5, a6, a7, a8, a9⟩ => (by first | omega | (unfold tkOf at a5; omega) | exact absurd (h6.symm.trans a6) (by decide) | exact absurd (h7.symm.trans a7) (by decide) | exact absurd (h8.symm.trans a8) (by decide)), fun a => by cases a⟩ | exact ⟨fun a => a.2.2.2.2.2.2.2, fun a => ⟨⟨by omega, by omega⟩, by omega, by omega, by unfold tkOf; omega, h6, h7, h8, a⟩⟩
                · skip
                  refine GT_skip rfl rfl rfl rfl rfl (by decide) rfl rfl ?_
                  refine GT_skip rfl rfl rfl rfl rfl (by decide) rfl rfl ?_
                  refine GT_skip_ld rfl rfl rfl rfl rfl (by decide) rfl rfl rfl (GR_nil) ?_
                  refine GT_st rfl rfl rfl rfl (V_pick_f rfl rfl rfl) ?_
                  refine GT_st rfl rfl rfl rfl (V_assign rfl rfl) ?_
                  refine GT_nil ?_
                  refine GE_ret Tryz.func209 rfl (fun w hw => ⟨?_, hw.nil⟩)
                  refine hd _ ?_; first | exact ⟨fun ⟨⟨a1, a2⟩, a3, a4, a5, a6, a7, a8, a9⟩ => (by first | omega | (unfold tkOf at a5; omega) | exact absurd (h6.symm.trans a6) (by decide) | exact absurd (h7.symm.trans a7) (by decide) | exact absurd (h8.symm.trans a8) (by decide)), fun a => by cases a⟩ | exact ⟨fun a => a.2.2.2.2.2.2.2, fun a => ⟨⟨by omega, by omega⟩, by omega, by omega, by unfold tkOf; omega, h6, h7, h8, a⟩⟩
              · skip
                refine GT_skip rfl rfl rfl rfl rfl (by decide) rfl rfl ?_
                refine GT_skip rfl rfl rfl rfl rfl (by decide) rfl rfl ?_
                refine GT_skip_ld rfl rfl rfl rfl rfl (by decide) rfl rfl rfl (GR_nil) ?_
                refine GT_st rfl rfl rfl rfl (V_pick_f rfl rfl rfl) ?_
                refine GT_st rfl rfl rfl rfl (V_move rfl rfl) ?_
                refine GT_skip rfl rfl rfl rfl rfl (by decide) rfl rfl ?_
                refine GT_skip rfl rfl rfl rfl rfl (by decide) rfl rfl ?_
                refine GT_skip_ld rfl rfl rfl rfl rfl (by decide) rfl rfl rfl (GR_nil) ?_
                refine GT_st rfl rfl rfl rfl (V_pick_f rfl rfl rfl) ?_
                refine GT_st rfl rfl rfl rfl (V_assign rfl rfl) ?_
                refine GT_nil ?_
                refine GE_ret Tryz.func209 rfl (fun w hw => ⟨?_, hw.nil⟩)
                refine hd _ ?_; first | exact ⟨fun ⟨⟨a1, a2⟩, a3, a4, a5, a6, a7, a8, a9⟩ => (by first | omega | (unfold tkOf at a5; omega) | exact absurd (h6.symm.trans a6) (by decide) | exact absurd (h7.symm.trans a7) (by decide) | exact absurd (h8.symm.trans a8) (by decide)), fun a => by cases a⟩ | exact ⟨fun a => a.2.2.2.2.2.2.2, fun a => ⟨⟨by omega, by omega⟩, by omega, by omega, by unfold tkOf; omega, h6, h7, h8, a⟩⟩
            · skip
              refine GT_skip rfl rfl rfl rfl rfl (by decide) rfl rfl ?_
              refine GT_skip rfl rfl rfl rfl rfl (by decide) rfl rfl ?_
              refine GT_skip_ld rfl rfl rfl rfl rfl (by decide) rfl rfl rfl (GR_nil) ?_
              refine GT_st rfl rfl rfl rfl (V_pick_f rfl rfl rfl) ?_
              refine GT_st rfl rfl rfl rfl (V_move rfl rfl) ?_
              refine GT_skip rfl rfl rfl rfl rfl (by decide) rfl rfl ?_
              refine GT_skip rfl rfl rfl rfl rfl (by decide) rfl rfl ?_
              refine GT_skip_ld rfl rfl rfl rfl rfl (by decide) rfl rfl rfl (GR_nil) ?_
              refine GT_st rfl rfl rfl rfl (V_pick_f rfl rfl rfl) ?_
              refine GT_st rfl rfl rfl rfl (V_move rfl rfl) ?_
              refine GT_skip rfl rfl rfl rfl rfl (by decide) rfl rfl ?_
              refine GT_skip rfl rfl rfl rfl rfl (by decide) rfl rfl ?_
              refine GT_skip_ld rfl rfl rfl rfl rfl (by decide) rfl rfl rfl (GR_nil) ?_
              refine GT_st rfl rfl rfl rfl (V_pick_f rfl rfl rfl) ?_
              refine GT_st rfl rfl rfl rfl (V_assign rfl rfl) ?_
              refine GT_nil ?_
              refine GE_ret Tryz.func209 rfl (fun w hw => ⟨?_, hw.nil⟩)
              refine hd _ ?_; first | exact ⟨fun ⟨⟨a1, a2⟩, a3, a4, a5, a6, a7, a8, a9⟩ => (by first | omega | (unfold tkOf at a5; omega) | exact absurd (h6.symm.trans a6) (by decide) | exact absurd (h7.symm.trans a7) (by decide) | exact absurd (h8.symm.trans a8) (by decide)), fun a => by cases a⟩ | exact ⟨fun a => a.2.2.2.2.2.2.2, fun a => ⟨⟨by omega, by omega⟩, by omega, by omega, by unfold tkOf; omega, h6, h7, h8, a⟩⟩
theorem fin_bd {l : List Tk} {p : List Prt} (hl : TksOk l) : ∀ k, k ≤ p.length → (∀ i, i < k → goodP l (pt p i) = true) → -8192 * (k : Int) ≤ fin (p.take k) ∧ fin (p.take k) ≤ 8192 * k := by
  intro k
  induction k with
  | zero => intro _ _; rw [List.take_zero]; exact ⟨by simp [fin], by simp [fin]⟩
  | succ k ih =>
    intro hk hg
    have h1 := ih (by omega) (fun i hi => hg i (by omega))
    have h2 := goodP_iff.1 (hg k (by omega))
    have h3 := h2.frto
    have h4 := h2.fr0
    have h5 := h2.to1
    have h6 := h2.gap
    have h7 : (tkOf l (pt p k)).data.length ≤ 4096 := by
      have a := h2.tk0; have b := h2.tk1
      exact (tErr_zero.1 (hl.each _ (getD_mem (i := (pt p k).tk.toNat) (by omega)))).1
    rw [fin_take (by omega)]
    unfold en bgn lng
    omega
def NewR (l : List Tk) (p : List Prt) (A : Option Addr) (c : Nat) (w : World) (v : Value) (w' : World) : Prop :=
  (gErr l p = 0 ∧ ∃ (b : Nat) (A' : Option Addr) (c' : Nat) (I' : Items), Own 10 384 ePlc (plcs p p.length) (.slice A' p.length c') I' ∧ v = .tuple #[ptr b 0, I 0] ∧ SH w none' ((b, blk [.slice A l.length c, .slice A' p.length c', I (fin p)] 381) :: I') w') ∨
  (gErr l p ≠ 0 ∧ v = .tuple #[.pointer none, I (gErr l p)] ∧ SH w none' [] w')
set_option maxRecDepth 10000 in
set_option maxHeartbeats 2000000 in
theorem C_new {l : List Tk} {p : List Prt} (h : Tks w A l) (hp : RdL w 7 ePrt A2 p) : Ret Tryz.prog 150 #[.slice A l.length c, .slice A2 p.length c2] w (NewR l p A c w) := by
  refine Ret_of (vs := [_, _]) hm none' Tryz.func150 rfl Tryz.ntmps150 rfl ?_
  dsimp only [slotsOf]
  refine GE_seq ?_
  refine GE_plain (.st 0 (.st 1 .nil)) rfl ?_
  refine GT_st rfl rfl rfl rfl (V_assign rfl rfl) ?_
  refine GT_st rfl rfl rfl rfl (V_assign rfl rfl) ?_
  refine GT_nil ?_
  refine GE_seq ?_
  refine GE_seq ?_
  refine GE_plain (.st 0 (.ld 1 [] (.st 2 .nil))) rfl ?_
  refine GT_st rfl rfl rfl rfl (V_move rfl rfl) ?_
  refine GT_call0 rfl rfl rfl rfl rfl rfl rfl rfl rn_103 (fun w hw => C_CheckTakes (h.sh hw)) (GR_nil) ?_
  refine GT_st rfl rfl rfl rfl (V_assign rfl rfl) ?_
  refine GT_nil ?_
  refine GE_seq ?_
  refine GE_slots (L' := [(0, _), (1, _), (6, _)]) ⟨rfl, rfl, rfl, trivial⟩ ?_
  refine GE_plain (.st 0 (.st 1 .nil)) rfl ?_
  refine GT_st rfl rfl rfl rfl (V_move rfl rfl) ?_
  refine GT_st rfl rfl rfl rfl (V_neq rfl rfl rfl) ?_
  refine GT_nil ?_
  first | refine GE_condNot rfl (fun h1 => ?_) (fun h1 => ?_) | refine GE_cond rfl (fun h1 => ?_) (fun h1 => ?_) | refine GE_condNotB rfl (fun h1 => ?_) (fun h1 => ?_) | refine GE_condB rfl (fun h1 => ?_) (fun h1 => ?_)
  · skip
    refine GE_seq ?_
    refine GE_slots (L' := [(6, _)]) ⟨rfl, trivial⟩ ?_
    refine GE_plain (.st 0 (.st 1 (.st 2 .nil))) rfl ?_
    refine GT_st rfl rfl rfl rfl (V_move rfl rfl) ?_
    refine GT_st rfl rfl rfl rfl (V_assign rfl rfl) ?_
    refine GT_st rfl rfl rfl rfl (V_assign rfl rfl) ?_
    refine GT_nil ?_
    refine GE_ret Tryz.func150 ⟨_, _, rfl, rfl, rfl⟩ (fun w hw => ?_)
    exact .inr ⟨by rw [gErr, if_neg h1]; exact h1, by rw [gErr, if_neg h1], hw.nil⟩
  · have hl := lErr_zero.1 h1
    refine GE_skip ?_
    refine GE_seq ?_
    refine GE_seq ?_
    refine GE_plain (.st 0 (.st 1 (.st 2 .nil))) rfl ?_
    refine GT_st rfl rfl rfl rfl (V_move rfl rfl) ?_
    refine GT_st rfl rfl rfl rfl (V_len rfl Tryz.underlying108 rfl) ?_
    refine GT_st rfl rfl rfl rfl (V_gtr rfl rfl rfl) ?_
    refine GT_nil ?_
    first | refine GE_condNot rfl (fun h2 => ?_) (fun h2 => ?_) | refine GE_cond rfl (fun h2 => ?_) (fun h2 => ?_) | refine GE_condNotB rfl (fun h2 => ?_) (fun h2 => ?_) | refine GE_condB rfl (fun h2 => ?_) (fun h2 => ?_)
    · skip
      refine GE_seq ?_
      refine GE_slots (L' := []) trivial ?_
      refine GE_plain (.st 0 (.st 1 .nil)) rfl ?_
      refine GT_st rfl rfl rfl rfl (V_assign rfl rfl) ?_
      refine GT_st rfl rfl rfl rfl (V_assign rfl rfl) ?_
      refine GT_nil ?_
      refine GE_ret Tryz.func150 ⟨_, _, rfl, rfl, rfl⟩ (fun w hw => ?_)
      have e : gErr l p = 6 := (by rw [gErr, if_pos h1, if_pos (by omega)]); exact .inr ⟨by omega, by rw [e], hw.nil⟩
    · have hp32 : p.length ≤ 32 := (by omega)
      refine GE_skip ?_
      refine GE_seq ?_
      refine GE_slots (L' := [(0, _), (1, _)]) ⟨rfl, rfl, trivial⟩ ?_
      refine GE_plain (.st 0 (.st 1 (.ld 2 [] (.st 3 .nil)))) rfl ?_
      refine GT_st rfl rfl rfl rfl (V_move rfl rfl) ?_
      refine GT_st rfl rfl rfl rfl (V_build (vs := [_, _, _]) rfl rfl zc_381 pl_381 sa_381 rfl) ?_
      refine GT_box (z := [_, _, _]) rfl rfl rfl rfl rfl rfl rfl (fun _ => GR_nil) (fun b24 => ?_)
      refine GT_st rfl rfl rfl rfl (V_assign rfl rfl) ?_
      refine GT_nil ?_
      refine GE_seq ?_
      refine GE_seq ?_
      refine GE_slots (L' := [(1, _), (7, _)]) ⟨rfl, rfl, trivial⟩ ?_
      refine GE_plain (.st 0 (.st 1 (.st 2 .nil))) rfl ?_
      refine GT_st rfl rfl rfl rfl (V_move rfl rfl) ?_
      refine GT_st rfl rfl rfl rfl (V_len rfl Tryz.underlying108 rfl) ?_
      refine GT_st rfl rfl rfl rfl (V_move rfl rfl) ?_
      refine GT_nil ?_
      refine GE_block ?_
      refine GE_to (GE_loop (ι := Nat × Option Addr × Nat × Items) (fun x => p.length - x.1) (fun x => [(7, ptr b24 0), (25, .slice A2 p.length c2), (26, I p.length), (27, I x.1)]) (fun x => (b24, blk [.slice A l.length c, .slice x.2.1 x.1 x.2.2.1, I (fin (p.take x.1))] 381) :: x.2.2.2) (fun x => x.1 ≤ p.length ∧ (∀ i, i < x.1 → goodP l (pt p i) = true) ∧ Own 10 384 ePlc (plcs p x.1) (.slice x.2.1 x.1 x.2.2.1) x.2.2.2) ?_ (0, none, 0, []) ?_) ⟨rfl, rfl, rfl, rfl, trivial⟩ (HS.cons rfl HS.nil)
      · rintro ⟨k, A', c', I'⟩ ⟨hk, hgd, hO⟩ ih; dsimp only at hk hgd hO ih ⊢; have hfb := fin_bd hl k hk hgd
        refine GE_seq ?_
        refine GE_plain (.st 0 .nil) rfl ?_
        refine GT_st rfl rfl rfl rfl (V_lss rfl rfl rfl) ?_
        refine GT_nil ?_
        refine GE_seq ?_
        first | refine GE_condNot rfl (fun h3 => ?_) (fun h3 => ?_) | refine GE_cond rfl (fun h3 => ?_) (fun h3 => ?_) | refine GE_condNotB rfl (fun h3 => ?_) (fun h3 => ?_) | refine GE_condB rfl (fun h3 => ?_) (fun h3 => ?_)
        · have hkl : k < p.length := (by omega)
          refine GE_skip ?_
          refine GE_seq ?_
          refine GE_block ?_
          refine GE_seq ?_
          refine GE_plain (.st 0 (.st 1 (.st 2 (.ld 3 [] (.st 4 (.ld 5 [] .nil)))))) rfl ?_
          refine GT_st rfl rfl rfl rfl (V_move rfl rfl) ?_
          refine GT_st rfl rfl rfl rfl (V_index rfl rfl rfl Tryz.underlying108 sz_124 (k := k) rfl hkl (hp.isSome hkl)) ?_
          refine GT_st rfl rfl rfl rfl (V_loadN (vs := [_, _, _, _, _, _, _]) rfl rfl ag_124 sz_124 rfl (show CellsAt _ _ _ (ePrt (pt p k)) from hp.ats noM hkl)) ?_
          refine GT_alloc rfl rfl rfl rfl rfl zc_124 (fun _ => GR_nil) (fun b9 => ?_)
          refine GT_st rfl rfl rfl rfl (V_assign rfl rfl) ?_
          refine GT_store (vs := [_, _, _, _, _, _, _]) (l' := [_, _, _, _, _, _, _]) rfl rfl rfl rfl rfl rfl rfl sz_124 rfl rfl (Nat.le_of_ble_eq_true rfl) rfl (GR_nil) ?_
          refine GT_nil ?_
          refine GE_seq ?_
          refine GE_seq ?_
          refine GE_slots (L' := [(7, _), (8, _), (9, _), (25, _), (26, _), (27, _)]) ⟨rfl, rfl, rfl, rfl, rfl, rfl, trivial⟩ ?_
          refine GE_plain (.st 0 (.st 1 (.ld 2 [] (.st 3 .nil)))) rfl ?_
          refine GT_st rfl rfl rfl rfl (V_move rfl rfl) ?_
          refine GT_st rfl rfl rfl rfl (V_loadN (vs := [_, _, _, _, _, _, _]) rfl rfl ag_124 sz_124 rfl (CellsAt.item rfl)) ?_
          refine GT_call0 rfl rfl rfl rfl rfl rfl rfl rfl rn_209 (fun w hw => C_good (x := pt p k) (h.sh hw) (BlkAt.of hw)) (GR_nil) ?_
          first | refine GT_st rfl rfl rfl rfl (V_not rfl rfl) ?_ | refine GT_st rfl rfl rfl rfl (V_notB rfl rfl) ?_
          refine GT_nil ?_
          first | refine GE_condNot rfl (fun h4 => ?_) (fun h4 => ?_) | refine GE_cond rfl (fun h4 => ?_) (fun h4 => ?_) | refine GE_condNotB rfl (fun h4 => ?_) (fun h4 => ?_) | refine GE_condB rfl (fun h4 => ?_) (fun h4 => ?_)
          · skip
            refine GE_seq ?_
            refine GE_slots (L' := []) trivial ?_
            refine GE_plain (.st 0 (.st 1 .nil)) rfl ?_
            refine GT_st rfl rfl rfl rfl (V_assign rfl rfl) ?_
            refine GT_st rfl rfl rfl rfl (V_assign rfl rfl) ?_
            refine GT_nil ?_
            refine GE_ret Tryz.func150 ⟨_, _, rfl, rfl, rfl⟩ (fun w hw => ?_)
            have e : gErr l p = 2 := (by rw [gErr, if_pos h1, if_neg (by omega), if_neg (by rw [all_split hkl h4]; decide)]); exact .inr ⟨by omega, by rw [e], hw.nil⟩
          · have hgk := goodP_iff.1 h4; have hfk := fin_bd hl (k + 1) hkl (fun i hi => by rcases Nat.lt_or_ge i k with r | r; exact hgd i r; rw [show i = k by omega]; exact h4); rw [fin_take hkl] at hfk; have hlk : en p k = bgn p k + lng (pt p k) := rfl; have hbk : bgn p k = fin (p.take k) + (pt p k).gap := rfl; have hnk : lng (pt p k) = (pt p k).to - (pt p k).fr := rfl; have hga := hgk.gap; have hfr0 := hgk.fr0; have hfrt := hgk.frto; have hto : (pt p k).to ≤ 4096 := (by have a := hgk.tk0; have b := hgk.tk1; have d := (tErr_zero.1 (hl.each _ (getD_mem (i := (pt p k).tk.toNat) (by omega)))).1; have e := hgk.to1; unfold tkOf at e; omega)
            refine GE_skip ?_
            refine GE_seq ?_
            refine GE_slots (L' := [(7, _), (8, _), (9, _), (25, _), (26, _), (27, _)]) ⟨rfl, rfl, rfl, rfl, rfl, rfl, trivial⟩ ?_
            refine GE_drawn (.st 0 (.st 1 (.st 2 (.st 3 (.st 4 (.st 5 (.st 6 (.st 7 (.st 8 (.st 9 (.ld 10 [0, 1, 2, 3, 4, 5, 6, 7, 8, 9] (.ld 11 [] .nil)))))))))))) [10, 11] (by decide +kernel) ?_
            refine GT_st rfl rfl rfl rfl (V_loadN (vs := [_, _, _, _, _, _, _]) rfl rfl ag_124 sz_124 rfl (CellsAt.item rfl)) ?_
            refine GT_st rfl rfl rfl rfl (V_move rfl rfl) ?_
            refine GT_st rfl rfl rfl rfl (V_move rfl rfl) ?_
            first | refine GT_st rfl rfl rfl rfl (V_nilCheck rfl rfl) ?_ | refine GT_st rfl rfl rfl rfl (V_nilCheck_func rfl rfl) ?_ | refine GT_st rfl rfl rfl rfl (V_nilCheck_yield rfl rfl) ?_
            first | refine GT_st rfl rfl rfl rfl (V_field rfl rfl fo_381_2) ?_ | refine GT_st rfl rfl rfl rfl (V_fieldA rfl rfl fo_381_2) ?_
            refine GT_st rfl rfl rfl rfl (V_load rfl rfl ag_3 (CellAt.item rfl)) ?_
            first | refine GT_st rfl rfl rfl rfl (V_field rfl rfl fo_124_3) ?_ | refine GT_st rfl rfl rfl rfl (V_fieldA rfl rfl fo_124_3) ?_
            refine GT_st rfl rfl rfl rfl (V_load rfl rfl ag_3 (CellAt.item rfl)) ?_
            refine GT_st rfl rfl rfl rfl (V_add rfl rfl rfl ((wrap_i64 (by omega)).trans (show _ = bgn p k from rfl))) ?_
            refine GT_st rfl rfl rfl rfl (V_build (vs := [_, _, _, _, _, _, _, _, _, _]) rfl rfl zc_384 pl_384 sa_384 rfl) ?_
            refine GT_alloc rfl rfl rfl rfl rfl zc_384 (fun _ => GR_cons rfl rfl rfl rfl (V_loadN (vs := [_, _, _, _, _, _, _]) rfl rfl ag_124 sz_124 rfl (CellsAt.item rfl)) (GR_cons rfl rfl rfl rfl (V_move rfl rfl) (GR_cons rfl rfl rfl rfl (V_move rfl rfl) (GR_cons rfl rfl rfl rfl ((by first | exact V_nilCheck rfl rfl | exact V_nilCheck_func rfl rfl | exact V_nilCheck_yield rfl rfl)) (GR_cons rfl rfl rfl rfl ((by first | exact V_field rfl rfl fo_381_2 | exact V_fieldA rfl rfl fo_381_2)) (GR_cons rfl rfl rfl rfl (V_load rfl rfl ag_3 (CellAt.item rfl)) (GR_cons rfl rfl rfl rfl ((by first | exact V_field rfl rfl fo_124_3 | exact V_fieldA rfl rfl fo_124_3)) (GR_cons rfl rfl rfl rfl (V_load rfl rfl ag_3 (CellAt.item rfl)) (GR_cons rfl rfl rfl rfl (V_add rfl rfl rfl ((wrap_i64 (by omega)).trans (show _ = bgn p k from rfl))) (GR_cons rfl rfl rfl rfl (V_build (vs := [_, _, _, _, _, _, _, _, _, _]) rfl rfl zc_384 pl_384 sa_384 rfl) (GR_nil))))))))))) (fun b10 => ?_)
            refine GT_store (vs := [_, _, _, _, _, _, _, _, _, _]) (l' := [_, _, _, _, _, _, _, _, _, _]) rfl rfl rfl rfl rfl rfl rfl sz_384 rfl rfl (Nat.le_of_ble_eq_true rfl) rfl (GR_nil) ?_
            refine GT_nil ?_
            refine GE_seq ?_
            refine GE_slots (L' := [(7, _), (9, _), (10, _), (25, _), (26, _), (27, _)]) ⟨rfl, rfl, rfl, rfl, rfl, rfl, trivial⟩ ?_
            refine GE_plain (.st 0 (.st 1 (.st 2 (.st 3 (.st 4 (.st 5 (.st 6 (.st 7 (.st 8 (.ld 9 [] .nil)))))))))) rfl ?_
            first | refine GT_st rfl rfl rfl rfl (V_field rfl rfl fo_384_2) ?_ | refine GT_st rfl rfl rfl rfl (V_fieldA rfl rfl fo_384_2) ?_
            refine GT_st rfl rfl rfl rfl (V_load rfl rfl ag_3 (CellAt.item rfl)) ?_
            first | refine GT_st rfl rfl rfl rfl (V_field rfl rfl fo_124_2) ?_ | refine GT_st rfl rfl rfl rfl (V_fieldA rfl rfl fo_124_2) ?_
            refine GT_st rfl rfl rfl rfl (V_load rfl rfl ag_3 (CellAt.item rfl)) ?_
            refine GT_st rfl rfl rfl rfl (V_add rfl rfl rfl (wrap_i64 (by omega))) ?_
            first | refine GT_st rfl rfl rfl rfl (V_field rfl rfl fo_124_1) ?_ | refine GT_st rfl rfl rfl rfl (V_fieldA rfl rfl fo_124_1) ?_
            refine GT_st rfl rfl rfl rfl (V_load rfl rfl ag_3 (CellAt.item rfl)) ?_
            refine GT_st rfl rfl rfl rfl (V_sub rfl rfl rfl ((wrap_i64 (by omega)).trans (show bgn p k + (pt p k).to - (pt p k).fr = en p k by omega))) ?_
            first | refine GT_st rfl rfl rfl rfl (V_field rfl rfl fo_384_3) ?_ | refine GT_st rfl rfl rfl rfl (V_fieldA rfl rfl fo_384_3) ?_
            refine GT_store (vs := [_]) (l' := [_, _, _, _, _, _, _, _, _, _]) rfl rfl rfl rfl rfl rfl rfl sz_3 rfl rfl (Nat.le_of_ble_eq_true rfl) rfl (GR_nil) ?_
            refine GT_nil ?_
            refine GE_seq ?_
            refine GE_slots (L' := [(7, _), (10, _), (25, _), (26, _), (27, _)]) ⟨rfl, rfl, rfl, rfl, rfl, trivial⟩ ?_
            refine GE_drawn (.st 0 (.st 1 (.st 2 (.st 3 (.st 4 (.st 5 (.ld 6 [0, 1, 2, 3, 4] (.ld 7 [0] (.st 8 (.st 9 (.ld 10 [] .nil))))))))))) [6, 7, 10] (by decide +kernel) ?_
            refine GT_st rfl rfl rfl rfl (V_move rfl rfl) ?_
            refine GT_st rfl rfl rfl rfl (V_move rfl rfl) ?_
            first | refine GT_st rfl rfl rfl rfl (V_nilCheck rfl rfl) ?_ | refine GT_st rfl rfl rfl rfl (V_nilCheck_func rfl rfl) ?_ | refine GT_st rfl rfl rfl rfl (V_nilCheck_yield rfl rfl) ?_
            first | refine GT_st rfl rfl rfl rfl (V_field rfl rfl fo_381_1) ?_ | refine GT_st rfl rfl rfl rfl (V_fieldA rfl rfl fo_381_1) ?_
            refine GT_st rfl rfl rfl rfl (V_load rfl rfl ag_379 (CellAt.item rfl)) ?_
            refine GT_st rfl rfl rfl rfl (V_loadN (vs := [_, _, _, _, _, _, _, _, _, _]) rfl rfl ag_384 sz_384 rfl (CellsAt.item rfl)) ?_
            refine GT_buildSlice (z := [_, _, _, _, _, _, _, _, _, _]) rfl rfl rfl rfl rfl Tryz.underlying379 zc_384 sz_384 (by decide) rfl rfl (fun _ => GR_cons rfl rfl rfl rfl (V_move rfl rfl) (GR_cons rfl rfl rfl rfl (V_move rfl rfl) (GR_cons rfl rfl rfl rfl ((by first | exact V_nilCheck rfl rfl | exact V_nilCheck_func rfl rfl | exact V_nilCheck_yield rfl rfl)) (GR_cons rfl rfl rfl rfl ((by first | exact V_field rfl rfl fo_381_1 | exact V_fieldA rfl rfl fo_381_1)) (GR_cons rfl rfl rfl rfl (V_load rfl rfl ag_379 (CellAt.item rfl)) (GR_nil)))))) (fun b61 => ?_)
            refine GT_append (enc := ePlc) (m := [plc p k]) rfl rfl rfl rfl rfl rfl rfl hO (fun w m => RdL.own' m ePlc_len) Tryz.underlying379 zc_384 sz_384 ⟨rfl, by decide⟩ by_384 ⟨by rw [plcs_len]; simp only [List.length_singleton]; omega, by rw [plcs_len]; simp only [List.length_singleton]; omega⟩ ePlc_len ePlc_one (fun _ _ _ _ => GR_cons rfl rfl rfl rfl (V_move rfl rfl) (GR_nil)) (fun A2' c2' I2' hO2 => ?_)
            rw [← plcs_succ, plcs_len] at hO2 ⊢
            first | refine GT_st rfl rfl rfl rfl (V_nilCheck rfl rfl) ?_ | refine GT_st rfl rfl rfl rfl (V_nilCheck_func rfl rfl) ?_ | refine GT_st rfl rfl rfl rfl (V_nilCheck_yield rfl rfl) ?_
            first | refine GT_st rfl rfl rfl rfl (V_field rfl rfl fo_381_1) ?_ | refine GT_st rfl rfl rfl rfl (V_fieldA rfl rfl fo_381_1) ?_
            refine GT_store (vs := [_]) (l' := [_, _, _]) rfl rfl rfl rfl rfl rfl rfl sz_379 rfl rfl (Nat.le_of_ble_eq_true rfl) rfl (GR_nil) ?_
            refine GT_nil ?_
            refine GE_slots (L' := [(7, _), (10, _), (25, _), (26, _), (27, _)]) ⟨rfl, rfl, rfl, rfl, rfl, trivial⟩ ?_
            refine GE_plain (.st 0 (.st 1 (.st 2 (.st 3 (.st 4 (.ld 5 [] .nil)))))) rfl ?_
            refine GT_st rfl rfl rfl rfl (V_move rfl rfl) ?_
            first | refine GT_st rfl rfl rfl rfl (V_field rfl rfl fo_384_3) ?_ | refine GT_st rfl rfl rfl rfl (V_fieldA rfl rfl fo_384_3) ?_
            refine GT_st rfl rfl rfl rfl (V_load rfl rfl ag_3 (CellAt.item rfl)) ?_
            first | refine GT_st rfl rfl rfl rfl (V_nilCheck rfl rfl) ?_ | refine GT_st rfl rfl rfl rfl (V_nilCheck_func rfl rfl) ?_ | refine GT_st rfl rfl rfl rfl (V_nilCheck_yield rfl rfl) ?_
            first | refine GT_st rfl rfl rfl rfl (V_field rfl rfl fo_381_2) ?_ | refine GT_st rfl rfl rfl rfl (V_fieldA rfl rfl fo_381_2) ?_
            refine GT_store (vs := [_]) (l' := [_, _, _]) rfl rfl rfl rfl rfl rfl rfl sz_3 rfl rfl (Nat.le_of_ble_eq_true rfl) rfl (GR_nil) ?_
            refine GT_nil ?_
            refine GE_inBlock ?_
            refine GE_slots (L' := [(7, _), (25, _), (26, _), (27, _)]) ⟨rfl, rfl, rfl, rfl, trivial⟩ ?_
            refine GE_plain (.st 0 (.ld 1 [] .nil)) rfl ?_
            refine GT_st rfl rfl rfl rfl (V_add rfl rfl rfl (wrap_i64 (by omega))) ?_
            refine GT_ldv rfl rfl rfl rfl rfl (V_move rfl rfl) (GR_nil) ?_
            refine GT_nil ?_
            exact GE_to (ih (k + 1, A2', c2', I2') ⟨by dsimp only; omega, fun i hi => by rcases Nat.lt_or_ge i k with r | r; exact hgd i r; rw [show i = k by dsimp only at hi; omega]; exact h4, hO2⟩ (by dsimp only; omega)) ⟨rfl, rfl, rfl, rfl, trivial⟩ (HS.cons (by rw [fin_take hkl]) HS.last)
        · obtain rfl : k = p.length := (by omega); rw [fin_all]; have hall := all_getD.2 hgd
          refine GE_exit rfl ?_
          refine GE_seq ?_
          refine GE_slots (L' := [(7, _)]) ⟨rfl, trivial⟩ ?_
          refine GE_plain (.st 0 .nil) rfl ?_
          refine GT_st rfl rfl rfl rfl (V_assign rfl rfl) ?_
          refine GT_nil ?_
          refine GE_seq ?_
          refine GE_seq ?_
          refine GE_plain (.st 0 (.st 1 (.st 2 (.st 3 (.st 4 (.st 5 .nil)))))) rfl ?_
          refine GT_st rfl rfl rfl rfl (V_move rfl rfl) ?_
          first | refine GT_st rfl rfl rfl rfl (V_nilCheck rfl rfl) ?_ | refine GT_st rfl rfl rfl rfl (V_nilCheck_func rfl rfl) ?_ | refine GT_st rfl rfl rfl rfl (V_nilCheck_yield rfl rfl) ?_
          first | refine GT_st rfl rfl rfl rfl (V_field rfl rfl fo_381_1) ?_ | refine GT_st rfl rfl rfl rfl (V_fieldA rfl rfl fo_381_1) ?_
          refine GT_st rfl rfl rfl rfl (V_load rfl rfl ag_379 (CellAt.item rfl)) ?_
          refine GT_st rfl rfl rfl rfl (V_len rfl Tryz.underlying379 rfl) ?_
          refine GT_st rfl rfl rfl rfl (V_move rfl rfl) ?_
          refine GT_nil ?_
          refine GE_block ?_
          refine GE_to (GE_loop (ι := Nat × Int) (fun x => p.length - x.1) (fun x => [(7, ptr b24 0), (11, I x.2), (74, .slice A' p.length c'), (75, I p.length), (76, I x.1)]) (fun x => (b24, blk [.slice A l.length c, .slice A' p.length c', I (fin p)] 381) :: I') (fun x => x.1 ≤ p.length ∧ (∀ i, i < x.1 → posOk p i) ∧ (x.1 ≤ 1 → x.2 = 0) ∧ (1 < x.1 → x.2 = en p (x.1 - 2))) ?_ (0, 0) ?_) ⟨rfl, rfl, rfl, rfl, rfl, trivial⟩ HS.all
          · rintro ⟨j, fr⟩ ⟨hj, hps, hf1, hf2⟩ ih2; dsimp only at hj hps hf1 hf2 ih2 ⊢; have hnn := bgn_nn hps
            refine GE_seq ?_
            refine GE_plain (.st 0 .nil) rfl ?_
            refine GT_st rfl rfl rfl rfl (V_lss rfl rfl rfl) ?_
            refine GT_nil ?_
            refine GE_seq ?_
            first | refine GE_condNot rfl (fun h5 => ?_) (fun h5 => ?_) | refine GE_cond rfl (fun h5 => ?_) (fun h5 => ?_) | refine GE_condNotB rfl (fun h5 => ?_) (fun h5 => ?_) | refine GE_condB rfl (fun h5 => ?_) (fun h5 => ?_)
            · have hjl : j < p.length := (by omega)
              refine GE_skip ?_
              refine GE_seq ?_
              refine GE_block ?_
              refine GE_seq ?_
              refine GE_plain (.st 0 (.st 1 (.st 2 (.ld 3 [] (.st 4 (.ld 5 [] .nil)))))) rfl ?_
              refine GT_st rfl rfl rfl rfl (V_move rfl rfl) ?_
              refine GT_st rfl rfl rfl rfl (V_index rfl rfl rfl Tryz.underlying379 sz_384 (k := j) rfl hjl (hO.isSome (k := j) (by rw [plcs_len]; exact hjl))) ?_
              refine GT_st rfl rfl rfl rfl (V_loadN (vs := [_, _, _, _, _, _, _, _, _, _]) rfl rfl ag_384 sz_384 rfl (CellsAt.ownE hO ePlc_len (by rw [plcs_len]; exact hjl) (by rw [plcs_get hjl, ePlc_plc]))) ?_
              refine GT_alloc rfl rfl rfl rfl rfl zc_384 (fun _ => GR_nil) (fun b13 => ?_)
              refine GT_st rfl rfl rfl rfl (V_assign rfl rfl) ?_
              refine GT_store (vs := [_, _, _, _, _, _, _, _, _, _]) (l' := [_, _, _, _, _, _, _, _, _, _]) rfl rfl rfl rfl rfl rfl rfl sz_384 rfl rfl (Nat.le_of_ble_eq_true rfl) rfl (GR_nil) ?_
              refine GT_nil ?_
              refine GE_seq ?_
              refine GE_seq ?_
              refine GE_slots (L' := [(7, _), (11, _), (12, _), (13, _), (74, _), (75, _), (76, _)]) ⟨rfl, rfl, rfl, rfl, rfl, rfl, rfl, trivial⟩ ?_
              refine GE_drawn (.st 0 (.st 1 (.st 2 (.st 3 (.st 4 (.st 5 (.st 6 (.st 7 (.st 8 (.st 9 (.st 10 (.st 11 (.st 12 (.st 13 (.st 14 (.st 15 (.st 16 (.st 17 (.st 18 (.st 19 (.st 20 (.st 21 (.st 22 (.st 23 (.st 24 (.st 25 (.st 26 (.st 27 (.st 28 (.st 29 (.st 30 (.st 31 (.st 32 (.st 33 (.st 34 (.st 35 .nil)))))))))))))))))))))))))))))))))))) [] (by decide +kernel) ?_
              refine GT_st rfl rfl rfl rfl (V_move rfl rfl) ?_
              refine GT_st rfl rfl rfl rfl (V_gtr rfl rfl rfl) ?_
              refine GT_st rfl rfl rfl rfl (V_move rfl rfl) ?_
              first | refine GT_splitNot (d := 83) rfl (fun h6 => ?_) (fun h6 => ?_) | refine GT_split (d := 83) rfl (fun h6 => ?_) (fun h6 => ?_) | refine GT_splitNotB (d := 83) rfl (fun h6 => ?_) (fun h6 => ?_) | refine GT_splitB (d := 83) rfl (fun h6 => ?_) (fun h6 => ?_)
              · have hn1 := hnn (j - 1) (by omega)
                first | refine GT_st_g rfl rfl rfl rfl rfl rfl rfl (V_field rfl rfl fo_384_3) ?_ | refine GT_st_g rfl rfl rfl rfl rfl rfl rfl (V_fieldA rfl rfl fo_384_3) ?_
                refine GT_st_g rfl rfl rfl rfl rfl rfl rfl (V_load rfl rfl ag_3 (CellAt.item rfl)) ?_
                refine GT_st_g rfl rfl rfl rfl rfl rfl rfl (V_move rfl rfl) ?_
                first | refine GT_st_g rfl rfl rfl rfl rfl rfl rfl (V_nilCheck rfl rfl) ?_ | refine GT_st_g rfl rfl rfl rfl rfl rfl rfl (V_nilCheck_func rfl rfl) ?_ | refine GT_st_g rfl rfl rfl rfl rfl rfl rfl (V_nilCheck_yield rfl rfl) ?_
                first | refine GT_st_g rfl rfl rfl rfl rfl rfl rfl (V_field rfl rfl fo_381_1) ?_ | refine GT_st_g rfl rfl rfl rfl rfl rfl rfl (V_fieldA rfl rfl fo_381_1) ?_
                refine GT_st_g rfl rfl rfl rfl rfl rfl rfl (V_load rfl rfl ag_379 (CellAt.item rfl)) ?_
                refine GT_st_g rfl rfl rfl rfl rfl rfl rfl (V_move rfl rfl) ?_
                refine GT_st_g rfl rfl rfl rfl rfl rfl rfl (V_sub rfl rfl rfl (wrap_i64 (by omega))) ?_
                refine GT_st_g rfl rfl rfl rfl rfl rfl rfl (V_index rfl rfl rfl Tryz.underlying379 sz_384 (k := j - 1) (by omega) (by omega) (hO.isSome (k := j) (by rw [plcs_len]; exact hjl))) ?_
                first | refine GT_st_g rfl rfl rfl rfl rfl rfl rfl (V_field rfl rfl fo_384_3) ?_ | refine GT_st_g rfl rfl rfl rfl rfl rfl rfl (V_fieldA rfl rfl fo_384_3) ?_
                refine GT_st_g rfl rfl rfl rfl rfl rfl rfl (V_load rfl rfl ag_3 (CellAt.own (k := j - 1) hO ePlc_len (by rw [plcs_len]; omega) (by rw [plcs_get (by omega)]; exact (show (ePlc (plc p (j - 1)))[9]? = some (I (en p (j - 1))) from rfl)))) ?_
                refine GT_st_g rfl rfl rfl rfl rfl rfl rfl (V_lss rfl rfl rfl) ?_
                refine GT_st_g rfl rfl rfl rfl rfl rfl rfl (V_move rfl rfl) ?_
                first | refine GT_splitNot (d := 96) rfl (fun h7 => ?_) (fun h7 => ?_) | refine GT_split (d := 96) rfl (fun h7 => ?_) (fun h7 => ?_) | refine GT_splitNotB (d := 96) rfl (fun h7 => ?_) (fun h7 => ?_) | refine GT_splitB (d := 96) rfl (fun h7 => ?_) (fun h7 => ?_)
                · skip
                  refine GT_skip rfl rfl rfl rfl rfl (by decide) rfl rfl ?_
                  refine GT_skip rfl rfl rfl rfl rfl (by decide) rfl rfl ?_
                  refine GT_skip rfl rfl rfl rfl rfl (by decide) rfl rfl ?_
                  refine GT_skip rfl rfl rfl rfl rfl (by decide) rfl rfl ?_
                  refine GT_skip rfl rfl rfl rfl rfl (by decide) rfl rfl ?_
                  refine GT_skip rfl rfl rfl rfl rfl (by decide) rfl rfl ?_
                  refine GT_skip rfl rfl rfl rfl rfl (by decide) rfl rfl ?_
                  refine GT_skip rfl rfl rfl rfl rfl (by decide) rfl rfl ?_
                  refine GT_skip rfl rfl rfl rfl rfl (by decide) rfl rfl ?_
                  refine GT_skip rfl rfl rfl rfl rfl (by decide) rfl rfl ?_
                  refine GT_skip rfl rfl rfl rfl rfl (by decide) rfl rfl ?_
                  refine GT_skip rfl rfl rfl rfl rfl (by decide) rfl rfl ?_
                  refine GT_st_g rfl rfl rfl rfl rfl rfl rfl (V_pick_t rfl rfl rfl) ?_
                  refine GT_st rfl rfl rfl rfl (V_pick_t rfl rfl rfl) ?_
                  refine GT_st rfl rfl rfl rfl (V_move rfl rfl) ?_
                  refine GT_skip rfl rfl rfl rfl rfl (by decide) rfl rfl ?_
                  refine GT_skip rfl rfl rfl rfl rfl (by decide) rfl rfl ?_
                  refine GT_skip rfl rfl rfl rfl rfl (by decide) rfl rfl ?_
                  refine GT_skip rfl rfl rfl rfl rfl (by decide) rfl rfl ?_
                  refine GT_st rfl rfl rfl rfl (V_pick_t rfl rfl rfl) ?_
                  refine GT_nil ?_
                  refine GE_cond_t rfl ?_
                  refine GE_seq ?_
                  refine GE_slots (L' := []) trivial ?_
                  refine GE_plain (.st 0 (.st 1 .nil)) rfl ?_
                  refine GT_st rfl rfl rfl rfl (V_assign rfl rfl) ?_
                  refine GT_st rfl rfl rfl rfl (V_assign rfl rfl) ?_
                  refine GT_nil ?_
                  refine GE_ret Tryz.func150 ⟨_, _, rfl, rfl, rfl⟩ (fun w hw => ?_)
                  first | exact .inl ⟨gErr_zero.2 ⟨hl, by omega, fun i hi => goodP_iff.1 (hgd i hi), hps, by omega⟩, b24, A', c', I', hO, rfl, hw⟩ | (have e : gErr l p = 15 := (by rw [gErr, if_pos h1, if_neg (by omega), if_pos hall, if_neg (fun hP => by have := hP.1 j hjl; unfold posOk at this; omega)]); exact .inr ⟨by omega, by rw [e], hw.nil⟩)
                · skip
                  first | refine GT_st_g rfl rfl rfl rfl rfl rfl rfl (V_field rfl rfl fo_384_2) ?_ | refine GT_st_g rfl rfl rfl rfl rfl rfl rfl (V_fieldA rfl rfl fo_384_2) ?_
                  refine GT_st_g rfl rfl rfl rfl rfl rfl rfl (V_load rfl rfl ag_3 (CellAt.item rfl)) ?_
                  refine GT_st_g rfl rfl rfl rfl rfl rfl rfl (V_move rfl rfl) ?_
                  first | refine GT_st_g rfl rfl rfl rfl rfl rfl rfl (V_nilCheck rfl rfl) ?_ | refine GT_st_g rfl rfl rfl rfl rfl rfl rfl (V_nilCheck_func rfl rfl) ?_ | refine GT_st_g rfl rfl rfl rfl rfl rfl rfl (V_nilCheck_yield rfl rfl) ?_
                  first | refine GT_st_g rfl rfl rfl rfl rfl rfl rfl (V_field rfl rfl fo_381_1) ?_ | refine GT_st_g rfl rfl rfl rfl rfl rfl rfl (V_fieldA rfl rfl fo_381_1) ?_
                  refine GT_st_g rfl rfl rfl rfl rfl rfl rfl (V_load rfl rfl ag_379 (CellAt.item rfl)) ?_
                  refine GT_st_g rfl rfl rfl rfl rfl rfl rfl (V_move rfl rfl) ?_
                  refine GT_st_g rfl rfl rfl rfl rfl rfl rfl (V_sub rfl rfl rfl (wrap_i64 (by omega))) ?_
                  refine GT_st_g rfl rfl rfl rfl rfl rfl rfl (V_index rfl rfl rfl Tryz.underlying379 sz_384 (k := j - 1) (by omega) (by omega) (hO.isSome (k := j) (by rw [plcs_len]; exact hjl))) ?_
                  first | refine GT_st_g rfl rfl rfl rfl rfl rfl rfl (V_field rfl rfl fo_384_2) ?_ | refine GT_st_g rfl rfl rfl rfl rfl rfl rfl (V_fieldA rfl rfl fo_384_2) ?_
                  refine GT_st_g rfl rfl rfl rfl rfl rfl rfl (V_load rfl rfl ag_3 (CellAt.own (k := j - 1) hO ePlc_len (by rw [plcs_len]; omega) (by rw [plcs_get (by omega)]; exact (show (ePlc (plc p (j - 1)))[8]? = some (I (bgn p (j - 1))) from rfl)))) ?_
                  refine GT_st_g rfl rfl rfl rfl rfl rfl rfl (V_lss rfl rfl rfl) ?_
                  refine GT_st_g rfl rfl rfl rfl rfl rfl rfl (V_pick_f rfl rfl rfl) ?_
                  refine GT_st rfl rfl rfl rfl (V_pick_t rfl rfl rfl) ?_
                  refine GT_st rfl rfl rfl rfl (V_move rfl rfl) ?_
                  first | refine GT_splitNot (d := 111) rfl (fun h8 => ?_) (fun h8 => ?_) | refine GT_split (d := 111) rfl (fun h8 => ?_) (fun h8 => ?_) | refine GT_splitNotB (d := 111) rfl (fun h8 => ?_) (fun h8 => ?_) | refine GT_splitB (d := 111) rfl (fun h8 => ?_) (fun h8 => ?_)
                  · skip
                    refine GT_skip rfl rfl rfl rfl rfl (by decide) rfl rfl ?_
                    refine GT_skip rfl rfl rfl rfl rfl (by decide) rfl rfl ?_
                    refine GT_skip rfl rfl rfl rfl rfl (by decide) rfl rfl ?_
                    refine GT_skip rfl rfl rfl rfl rfl (by decide) rfl rfl ?_
                    refine GT_st rfl rfl rfl rfl (V_pick_t rfl rfl rfl) ?_
                    refine GT_nil ?_
                    refine GE_cond_t rfl ?_
                    refine GE_seq ?_
                    refine GE_slots (L' := []) trivial ?_
                    refine GE_plain (.st 0 (.st 1 .nil)) rfl ?_
                    refine GT_st rfl rfl rfl rfl (V_assign rfl rfl) ?_
                    refine GT_st rfl rfl rfl rfl (V_assign rfl rfl) ?_
                    refine GT_nil ?_
                    refine GE_ret Tryz.func150 ⟨_, _, rfl, rfl, rfl⟩ (fun w hw => ?_)
                    first | exact .inl ⟨gErr_zero.2 ⟨hl, by omega, fun i hi => goodP_iff.1 (hgd i hi), hps, by omega⟩, b24, A', c', I', hO, rfl, hw⟩ | (have e : gErr l p = 15 := (by rw [gErr, if_pos h1, if_neg (by omega), if_pos hall, if_neg (fun hP => by have := hP.1 j hjl; unfold posOk at this; omega)]); exact .inr ⟨by omega, by rw [e], hw.nil⟩)
                  · skip
                    first | refine GT_st_g rfl rfl rfl rfl rfl rfl rfl (V_field rfl rfl fo_384_2) ?_ | refine GT_st_g rfl rfl rfl rfl rfl rfl rfl (V_fieldA rfl rfl fo_384_2) ?_
                    refine GT_st_g rfl rfl rfl rfl rfl rfl rfl (V_load rfl rfl ag_3 (CellAt.item rfl)) ?_
                    refine GT_st_g rfl rfl rfl rfl rfl rfl rfl (V_move rfl rfl) ?_
                    refine GT_st_g rfl rfl rfl rfl rfl rfl rfl (V_lss rfl rfl rfl) ?_
                    refine GT_st rfl rfl rfl rfl (V_pick_f rfl rfl rfl) ?_
                    refine GT_nil ?_
                    first | refine GE_condNot rfl (fun h9 => ?_) (fun h9 => ?_) | refine GE_cond rfl (fun h9 => ?_) (fun h9 => ?_) | refine GE_condNotB rfl (fun h9 => ?_) (fun h9 => ?_) | refine GE_condB rfl (fun h9 => ?_) (fun h9 => ?_)
                    · skip
                      refine GE_seq ?_
                      refine GE_slots (L' := []) trivial ?_
                      refine GE_plain (.st 0 (.st 1 .nil)) rfl ?_
                      refine GT_st rfl rfl rfl rfl (V_assign rfl rfl) ?_
                      refine GT_st rfl rfl rfl rfl (V_assign rfl rfl) ?_
                      refine GT_nil ?_
                      refine GE_ret Tryz.func150 ⟨_, _, rfl, rfl, rfl⟩ (fun w hw => ?_)
                      have e : gErr l p = 15 := (by rw [gErr, if_pos h1, if_neg (by omega), if_pos hall, if_neg (fun hP => by have := hP.1 j hjl; unfold posOk at this; omega)]); exact .inr ⟨by omega, by rw [e], hw.nil⟩
                    · have hok : posOk p j := (by unfold posOk; omega)
                      refine GE_skip ?_
                      refine GE_seq ?_
                      refine GE_slots (L' := [(7, _), (11, _), (12, _), (74, _), (75, _), (76, _), (84, _), (85, _), (86, _), (87, _), (88, _), (89, _), (90, _), (91, _), (92, _), (93, _), (94, _), (95, _), (96, _), (97, _), (98, _), (99, _), (100, _), (101, _), (102, _), (103, _), (104, _), (105, _), (106, _), (107, _), (108, _), (109, _), (112, _), (113, _), (114, _), (115, _)]) ⟨rfl, rfl, rfl, rfl, rfl, rfl, rfl, rfl, rfl, rfl, rfl, rfl, rfl, rfl, rfl, rfl, rfl, rfl, rfl, rfl, rfl, rfl, rfl, rfl, rfl, rfl, rfl, rfl, rfl, rfl, rfl, rfl, rfl, rfl, rfl, rfl, trivial⟩ ?_
                      refine GE_plain (.st 0 (.st 1 .nil)) rfl ?_
                      refine GT_st rfl rfl rfl rfl (V_move rfl rfl) ?_
                      refine GT_st rfl rfl rfl rfl (V_gtr rfl rfl rfl) ?_
                      refine GT_nil ?_
                      first | refine GE_condNot rfl (fun h10 => ?_) (fun h10 => ?_) | refine GE_cond rfl (fun h10 => ?_) (fun h10 => ?_) | refine GE_condNotB rfl (fun h10 => ?_) (fun h10 => ?_) | refine GE_condB rfl (fun h10 => ?_) (fun h10 => ?_)
                      · skip
                        refine GE_plain (.st 0 (.st 1 (.st 2 (.st 3 (.st 4 (.st 5 (.st 6 (.st 7 (.st 8 (.st 9 .nil)))))))))) rfl ?_
                        refine GT_st rfl rfl rfl rfl (V_move rfl rfl) ?_
                        first | refine GT_st rfl rfl rfl rfl (V_nilCheck rfl rfl) ?_ | refine GT_st rfl rfl rfl rfl (V_nilCheck_func rfl rfl) ?_ | refine GT_st rfl rfl rfl rfl (V_nilCheck_yield rfl rfl) ?_
                        first | refine GT_st rfl rfl rfl rfl (V_field rfl rfl fo_381_1) ?_ | refine GT_st rfl rfl rfl rfl (V_fieldA rfl rfl fo_381_1) ?_
                        refine GT_st rfl rfl rfl rfl (V_load rfl rfl ag_379 (CellAt.item rfl)) ?_
                        refine GT_st rfl rfl rfl rfl (V_move rfl rfl) ?_
                        refine GT_st rfl rfl rfl rfl (V_sub rfl rfl rfl (wrap_i64 (by omega))) ?_
                        refine GT_st rfl rfl rfl rfl (V_index rfl rfl rfl Tryz.underlying379 sz_384 (k := j - 1) (by omega) (by omega) (hO.isSome (k := j) (by rw [plcs_len]; exact hjl))) ?_
                        first | refine GT_st rfl rfl rfl rfl (V_field rfl rfl fo_384_3) ?_ | refine GT_st rfl rfl rfl rfl (V_fieldA rfl rfl fo_384_3) ?_
                        refine GT_st rfl rfl rfl rfl (V_load rfl rfl ag_3 (CellAt.own (k := j - 1) hO ePlc_len (by rw [plcs_len]; omega) (by rw [plcs_get (by omega)]; exact (show (ePlc (plc p (j - 1)))[9]? = some (I (en p (j - 1))) from rfl)))) ?_
                        refine GT_st rfl rfl rfl rfl (V_assign rfl rfl) ?_
                        refine GT_nil ?_
                        refine GE_inBlock ?_
                        refine GE_slots (L' := [(7, _), (11, _), (74, _), (75, _), (76, _), (84, _), (85, _), (86, _), (87, _), (88, _), (89, _), (90, _), (91, _), (92, _), (93, _), (94, _), (95, _), (96, _), (97, _), (98, _), (99, _), (100, _), (101, _), (102, _), (103, _), (104, _), (105, _), (106, _), (107, _), (108, _), (109, _), (112, _), (113, _), (114, _), (115, _)]) ⟨rfl, rfl, rfl, rfl, rfl, rfl, rfl, rfl, rfl, rfl, rfl, rfl, rfl, rfl, rfl, rfl, rfl, rfl, rfl, rfl, rfl, rfl, rfl, rfl, rfl, rfl, rfl, rfl, rfl, rfl, rfl, rfl, rfl, rfl, rfl, trivial⟩ ?_
                        refine GE_plain (.st 0 (.ld 1 [] .nil)) rfl ?_
                        refine GT_st rfl rfl rfl rfl (V_add rfl rfl rfl (wrap_i64 (by omega))) ?_
                        refine GT_ldv rfl rfl rfl rfl rfl (V_move rfl rfl) (GR_nil) ?_
                        refine GT_nil ?_
                        first
                          | exact GE_to (ih2 (j + 1, en p (j - 1)) ⟨by dsimp only; omega, fun i hi => by rcases Nat.lt_or_ge i j with r | r; exact hps i r; rw [show i = j by dsimp only at hi; omega]; exact hok, fun q => by dsimp only at q; omega, fun _ => by dsimp only; rw [show j + 1 - 2 = j - 1 by omega]⟩ (by dsimp only; omega)) ⟨rfl, rfl, rfl, rfl, rfl, trivial⟩ (HS.cons rfl HS.last)
                          | exact GE_to (ih2 (j + 1, fr) ⟨by dsimp only; omega, fun i hi => by rcases Nat.lt_or_ge i j with r | r; exact hps i r; rw [show i = j by dsimp only at hi; omega]; exact hok, fun q => hf1 (by omega), fun q => by dsimp only at q; omega⟩ (by dsimp only; omega)) ⟨rfl, rfl, rfl, rfl, rfl, trivial⟩ (HS.cons rfl HS.last)
                      · skip
                        refine GE_skip ?_
                        refine GE_inBlock ?_
                        refine GE_plain (.st 0 (.ld 1 [] .nil)) rfl ?_
                        refine GT_st rfl rfl rfl rfl (V_add rfl rfl rfl (wrap_i64 (by omega))) ?_
                        refine GT_ldv rfl rfl rfl rfl rfl (V_move rfl rfl) (GR_nil) ?_
                        refine GT_nil ?_
                        first
                          | exact GE_to (ih2 (j + 1, en p (j - 1)) ⟨by dsimp only; omega, fun i hi => by rcases Nat.lt_or_ge i j with r | r; exact hps i r; rw [show i = j by dsimp only at hi; omega]; exact hok, fun q => by dsimp only at q; omega, fun _ => by dsimp only; rw [show j + 1 - 2 = j - 1 by omega]⟩ (by dsimp only; omega)) ⟨rfl, rfl, rfl, rfl, rfl, trivial⟩ (HS.cons rfl HS.last)
                          | exact GE_to (ih2 (j + 1, fr) ⟨by dsimp only; omega, fun i hi => by rcases Nat.lt_or_ge i j with r | r; exact hps i r; rw [show i = j by dsimp only at hi; omega]; exact hok, fun q => hf1 (by omega), fun q => by dsimp only at q; omega⟩ (by dsimp only; omega)) ⟨rfl, rfl, rfl, rfl, rfl, trivial⟩ (HS.cons rfl HS.last)
              · skip
                refine GT_skip rfl rfl rfl rfl rfl (by decide) rfl rfl ?_
                refine GT_skip rfl rfl rfl rfl rfl (by decide) rfl rfl ?_
                refine GT_skip rfl rfl rfl rfl rfl (by decide) rfl rfl ?_
                refine GT_skip rfl rfl rfl rfl rfl (by decide) rfl rfl ?_
                refine GT_skip rfl rfl rfl rfl rfl (by decide) rfl rfl ?_
                refine GT_skip rfl rfl rfl rfl rfl (by decide) rfl rfl ?_
                refine GT_skip rfl rfl rfl rfl rfl (by decide) rfl rfl ?_
                refine GT_skip rfl rfl rfl rfl rfl (by decide) rfl rfl ?_
                refine GT_skip rfl rfl rfl rfl rfl (by decide) rfl rfl ?_
                refine GT_skip rfl rfl rfl rfl rfl (by decide) rfl rfl ?_
                refine GT_skip rfl rfl rfl rfl rfl (by decide) rfl rfl ?_
                refine GT_skip rfl rfl rfl rfl rfl (by decide) rfl rfl ?_
                refine GT_skip rfl rfl rfl rfl rfl (by decide) rfl rfl ?_
                refine GT_skip rfl rfl rfl rfl rfl (by decide) rfl rfl ?_
                refine GT_skip rfl rfl rfl rfl rfl (by decide) rfl rfl ?_
                refine GT_skip rfl rfl rfl rfl rfl (by decide) rfl rfl ?_
                refine GT_skip rfl rfl rfl rfl rfl (by decide) rfl rfl ?_
                refine GT_skip rfl rfl rfl rfl rfl (by decide) rfl rfl ?_
                refine GT_skip rfl rfl rfl rfl rfl (by decide) rfl rfl ?_
                refine GT_skip rfl rfl rfl rfl rfl (by decide) rfl rfl ?_
                refine GT_skip rfl rfl rfl rfl rfl (by decide) rfl rfl ?_
                refine GT_skip rfl rfl rfl rfl rfl (by decide) rfl rfl ?_
                refine GT_skip rfl rfl rfl rfl rfl (by decide) rfl rfl ?_
                refine GT_skip rfl rfl rfl rfl rfl (by decide) rfl rfl ?_
                refine GT_skip rfl rfl rfl rfl rfl (by decide) rfl rfl ?_
                refine GT_skip rfl rfl rfl rfl rfl (by decide) rfl rfl ?_
                refine GT_st rfl rfl rfl rfl (V_pick_f rfl rfl rfl) ?_
                refine GT_st rfl rfl rfl rfl (V_move rfl rfl) ?_
                first | refine GT_st_g rfl rfl rfl rfl rfl rfl rfl (V_field rfl rfl fo_384_2) ?_ | refine GT_st_g rfl rfl rfl rfl rfl rfl rfl (V_fieldA rfl rfl fo_384_2) ?_
                refine GT_st_g rfl rfl rfl rfl rfl rfl rfl (V_load rfl rfl ag_3 (CellAt.item rfl)) ?_
                refine GT_st_g rfl rfl rfl rfl rfl rfl rfl (V_move rfl rfl) ?_
                refine GT_st_g rfl rfl rfl rfl rfl rfl rfl (V_lss rfl rfl rfl) ?_
                refine GT_st rfl rfl rfl rfl (V_pick_f rfl rfl rfl) ?_
                refine GT_nil ?_
                first | refine GE_condNot rfl (fun h9 => ?_) (fun h9 => ?_) | refine GE_cond rfl (fun h9 => ?_) (fun h9 => ?_) | refine GE_condNotB rfl (fun h9 => ?_) (fun h9 => ?_) | refine GE_condB rfl (fun h9 => ?_) (fun h9 => ?_)
                · skip
                  refine GE_seq ?_
                  refine GE_slots (L' := []) trivial ?_
                  refine GE_plain (.st 0 (.st 1 .nil)) rfl ?_
                  refine GT_st rfl rfl rfl rfl (V_assign rfl rfl) ?_
                  refine GT_st rfl rfl rfl rfl (V_assign rfl rfl) ?_
                  refine GT_nil ?_
                  refine GE_ret Tryz.func150 ⟨_, _, rfl, rfl, rfl⟩ (fun w hw => ?_)
                  have e : gErr l p = 15 := (by rw [gErr, if_pos h1, if_neg (by omega), if_pos hall, if_neg (fun hP => by have := hP.1 j hjl; unfold posOk at this; omega)]); exact .inr ⟨by omega, by rw [e], hw.nil⟩
                · have hok : posOk p j := (by unfold posOk; omega)
                  refine GE_skip ?_
                  refine GE_seq ?_
                  refine GE_slots (L' := [(7, _), (11, _), (12, _), (74, _), (75, _), (76, _), (84, _), (85, _), (86, _), (87, _), (88, _), (89, _), (90, _), (91, _), (92, _), (93, _), (94, _), (95, _), (96, _), (97, _), (98, _), (99, _), (100, _), (101, _), (102, _), (103, _), (104, _), (105, _), (106, _), (107, _), (108, _), (109, _), (112, _), (113, _), (114, _), (115, _)]) ⟨rfl, rfl, rfl, rfl, rfl, rfl, rfl, rfl, rfl, rfl, rfl, rfl, rfl, rfl, rfl, rfl, rfl, rfl, rfl, rfl, rfl, rfl, rfl, rfl, rfl, rfl, rfl, rfl, rfl, rfl, rfl, rfl, rfl, rfl, rfl, rfl, trivial⟩ ?_
                  refine GE_plain (.st 0 (.st 1 .nil)) rfl ?_
                  refine GT_st rfl rfl rfl rfl (V_move rfl rfl) ?_
                  refine GT_st rfl rfl rfl rfl (V_gtr rfl rfl rfl) ?_
                  refine GT_nil ?_
                  first | refine GE_condNot rfl (fun h10 => ?_) (fun h10 => ?_) | refine GE_cond rfl (fun h10 => ?_) (fun h10 => ?_) | refine GE_condNotB rfl (fun h10 => ?_) (fun h10 => ?_) | refine GE_condB rfl (fun h10 => ?_) (fun h10 => ?_)
                  · skip
                    refine GE_plain (.st 0 (.st 1 (.st 2 (.st 3 (.st 4 (.st 5 (.st 6 (.st 7 (.st 8 (.st 9 .nil)))))))))) rfl ?_
                    refine GT_st rfl rfl rfl rfl (V_move rfl rfl) ?_
                    first | refine GT_st rfl rfl rfl rfl (V_nilCheck rfl rfl) ?_ | refine GT_st rfl rfl rfl rfl (V_nilCheck_func rfl rfl) ?_ | refine GT_st rfl rfl rfl rfl (V_nilCheck_yield rfl rfl) ?_
                    first | refine GT_st rfl rfl rfl rfl (V_field rfl rfl fo_381_1) ?_ | refine GT_st rfl rfl rfl rfl (V_fieldA rfl rfl fo_381_1) ?_
                    refine GT_st rfl rfl rfl rfl (V_load rfl rfl ag_379 (CellAt.item rfl)) ?_
                    refine GT_st rfl rfl rfl rfl (V_move rfl rfl) ?_
                    refine GT_st rfl rfl rfl rfl (V_sub rfl rfl rfl (wrap_i64 (by omega))) ?_
                    refine GT_st rfl rfl rfl rfl (V_index rfl rfl rfl Tryz.underlying379 sz_384 (k := j - 1) (by omega) (by omega) (hO.isSome (k := j) (by rw [plcs_len]; exact hjl))) ?_
                    first | refine GT_st rfl rfl rfl rfl (V_field rfl rfl fo_384_3) ?_ | refine GT_st rfl rfl rfl rfl (V_fieldA rfl rfl fo_384_3) ?_
                    refine GT_st rfl rfl rfl rfl (V_load rfl rfl ag_3 (CellAt.own (k := j - 1) hO ePlc_len (by rw [plcs_len]; omega) (by rw [plcs_get (by omega)]; exact (show (ePlc (plc p (j - 1)))[9]? = some (I (en p (j - 1))) from rfl)))) ?_
                    refine GT_st rfl rfl rfl rfl (V_assign rfl rfl) ?_
                    refine GT_nil ?_
                    refine GE_inBlock ?_
                    refine GE_slots (L' := [(7, _), (11, _), (74, _), (75, _), (76, _), (84, _), (85, _), (86, _), (87, _), (88, _), (89, _), (90, _), (91, _), (92, _), (93, _), (94, _), (95, _), (96, _), (97, _), (98, _), (99, _), (100, _), (101, _), (102, _), (103, _), (104, _), (105, _), (106, _), (107, _), (108, _), (109, _), (112, _), (113, _), (114, _), (115, _)]) ⟨rfl, rfl, rfl, rfl, rfl, rfl, rfl, rfl, rfl, rfl, rfl, rfl, rfl, rfl, rfl, rfl, rfl, rfl, rfl, rfl, rfl, rfl, rfl, rfl, rfl, rfl, rfl, rfl, rfl, rfl, rfl, rfl, rfl, rfl, rfl, trivial⟩ ?_
                    refine GE_plain (.st 0 (.ld 1 [] .nil)) rfl ?_
                    refine GT_st rfl rfl rfl rfl (V_add rfl rfl rfl (wrap_i64 (by omega))) ?_
                    refine GT_ldv rfl rfl rfl rfl rfl (V_move rfl rfl) (GR_nil) ?_
                    refine GT_nil ?_
                    first
                      | exact GE_to (ih2 (j + 1, en p (j - 1)) ⟨by dsimp only; omega, fun i hi => by rcases Nat.lt_or_ge i j with r | r; exact hps i r; rw [show i = j by dsimp only at hi; omega]; exact hok, fun q => by dsimp only at q; omega, fun _ => by dsimp only; rw [show j + 1 - 2 = j - 1 by omega]⟩ (by dsimp only; omega)) ⟨rfl, rfl, rfl, rfl, rfl, trivial⟩ (HS.cons rfl HS.last)
                      | exact GE_to (ih2 (j + 1, fr) ⟨by dsimp only; omega, fun i hi => by rcases Nat.lt_or_ge i j with r | r; exact hps i r; rw [show i = j by dsimp only at hi; omega]; exact hok, fun q => hf1 (by omega), fun q => by dsimp only at q; omega⟩ (by dsimp only; omega)) ⟨rfl, rfl, rfl, rfl, rfl, trivial⟩ (HS.cons rfl HS.last)
                  · skip
                    refine GE_skip ?_
                    refine GE_inBlock ?_
                    refine GE_plain (.st 0 (.ld 1 [] .nil)) rfl ?_
                    refine GT_st rfl rfl rfl rfl (V_add rfl rfl rfl (wrap_i64 (by omega))) ?_
                    refine GT_ldv rfl rfl rfl rfl rfl (V_move rfl rfl) (GR_nil) ?_
                    refine GT_nil ?_
                    first
                      | exact GE_to (ih2 (j + 1, en p (j - 1)) ⟨by dsimp only; omega, fun i hi => by rcases Nat.lt_or_ge i j with r | r; exact hps i r; rw [show i = j by dsimp only at hi; omega]; exact hok, fun q => by dsimp only at q; omega, fun _ => by dsimp only; rw [show j + 1 - 2 = j - 1 by omega]⟩ (by dsimp only; omega)) ⟨rfl, rfl, rfl, rfl, rfl, trivial⟩ (HS.cons rfl HS.last)
                      | exact GE_to (ih2 (j + 1, fr) ⟨by dsimp only; omega, fun i hi => by rcases Nat.lt_or_ge i j with r | r; exact hps i r; rw [show i = j by dsimp only at hi; omega]; exact hok, fun q => hf1 (by omega), fun q => by dsimp only at q; omega⟩ (by dsimp only; omega)) ⟨rfl, rfl, rfl, rfl, rfl, trivial⟩ (HS.cons rfl HS.last)
            · obtain rfl : j = p.length := (by omega)
              refine GE_exit rfl ?_
              refine GE_seq ?_
              refine GE_seq ?_
              refine GE_slots (L' := [(7, _)]) ⟨rfl, trivial⟩ ?_
              refine GE_plain (.st 0 (.st 1 (.st 2 (.st 3 (.st 4 .nil))))) rfl ?_
              refine GT_st rfl rfl rfl rfl (V_move rfl rfl) ?_
              first | refine GT_st rfl rfl rfl rfl (V_nilCheck rfl rfl) ?_ | refine GT_st rfl rfl rfl rfl (V_nilCheck_func rfl rfl) ?_ | refine GT_st rfl rfl rfl rfl (V_nilCheck_yield rfl rfl) ?_
              first | refine GT_st rfl rfl rfl rfl (V_field rfl rfl fo_381_2) ?_ | refine GT_st rfl rfl rfl rfl (V_fieldA rfl rfl fo_381_2) ?_
              refine GT_st rfl rfl rfl rfl (V_load rfl rfl ag_3 (CellAt.item rfl)) ?_
              refine GT_st rfl rfl rfl rfl (V_gtr rfl rfl rfl) ?_
              refine GT_nil ?_
              first | refine GE_condNot rfl (fun h11 => ?_) (fun h11 => ?_) | refine GE_cond rfl (fun h11 => ?_) (fun h11 => ?_) | refine GE_condNotB rfl (fun h11 => ?_) (fun h11 => ?_) | refine GE_condB rfl (fun h11 => ?_) (fun h11 => ?_)
              · skip
                refine GE_seq ?_
                refine GE_slots (L' := []) trivial ?_
                refine GE_plain (.st 0 (.st 1 .nil)) rfl ?_
                refine GT_st rfl rfl rfl rfl (V_assign rfl rfl) ?_
                refine GT_st rfl rfl rfl rfl (V_assign rfl rfl) ?_
                refine GT_nil ?_
                refine GE_ret Tryz.func150 ⟨_, _, rfl, rfl, rfl⟩ (fun w hw => ?_)
                have e : gErr l p = 15 := (by rw [gErr, if_pos h1, if_neg (by omega), if_pos hall, if_neg (fun hP => by have := hP.2; omega)]); exact .inr ⟨by omega, by rw [e], hw.nil⟩
              · skip
                refine GE_skip ?_
                refine GE_seq ?_
                refine GE_slots (L' := [(7, _)]) ⟨rfl, trivial⟩ ?_
                refine GE_plain (.st 0 (.st 1 (.st 2 .nil))) rfl ?_
                refine GT_st rfl rfl rfl rfl (V_move rfl rfl) ?_
                refine GT_st rfl rfl rfl rfl (V_assign rfl rfl) ?_
                refine GT_st rfl rfl rfl rfl (V_assign rfl rfl) ?_
                refine GT_nil ?_
                refine GE_ret Tryz.func150 ⟨_, _, rfl, rfl, rfl⟩ (fun w hw => ?_)
                first | exact .inl ⟨gErr_zero.2 ⟨hl, by omega, fun i hi => goodP_iff.1 (hgd i hi), hps, by omega⟩, b24, A', c', I', hO, rfl, hw⟩ | (have e : gErr l p = 15 := (by rw [gErr, if_pos h1, if_neg (by omega), if_pos hall, if_neg (fun hP => by have := hP.1 j hjl; unfold posOk at this; omega)]); exact .inr ⟨by omega, by rw [e], hw.nil⟩)
          · exact ⟨Nat.zero_le _, fun i hi => absurd hi (Nat.not_lt_zero _), fun _ => rfl, fun h => absurd h (by decide)⟩
      · exact ⟨Nat.zero_le _, fun i hi => absurd hi (Nat.not_lt_zero _), Own.nil⟩
end
end Go.Proofs.YtpbflnfcgcldkaaGreatDoor.Take
/- Sounds of samples, walked. -/
namespace Go.Proofs.YtpbflnfcgcldkaaGreatDoor.Take
open Go.Sx Go.Proofs Go.RowKit
section
variable {w : World} {A A2 : Option Addr} {c c2 : Nat} {l : List Tk} {p : List Prt}
theorem C_new_ok (h : Tks w A l) (hp : RdL w 7 ePrt A2 p) (hg : gErr l p = 0) : Con Tryz.prog 150 [.slice A l.length c, .slice A2 p.length c2] w (fun y : Nat × Option Addr × Nat × Items => Own 10 384 ePlc (plcs p p.length) (.slice y.2.1 p.length y.2.2.1) y.2.2.2)
    (fun y => .tuple #[ptr y.1 0, I 0]) (fun y => (y.1, blk [.slice A l.length c, .slice y.2.1 p.length y.2.2.1, I (fin p)] 381) :: y.2.2.2) :=
  (C_new h hp).mono fun v w' hr => by
    rcases hr with ⟨_, b, A', c', I', hO, e, hs⟩ | ⟨hn, _⟩
    · exact ⟨(b, A', c', I'), hO, e, hs⟩
    · exact absurd hg hn
theorem C_new_bad (h : Tks w A l) (hp : RdL w 7 ePrt A2 p) (hg : ¬ gErr l p = 0) : Con0 Tryz.prog 150 [.slice A l.length c, .slice A2 p.length c2] w (.tuple #[.pointer none, I (gErr l p)]) :=
  (C_new h hp).mono fun v w' hr => by
    rcases hr with ⟨hn, _⟩ | ⟨_, e, hs⟩
    · exact absurd hn hg
    · exact ⟨e, hs⟩
theorem C_sum {a b : Sam} (ha : a.bd 100000000) (hb : b.bd 100000000) : Con0 Tryz.prog 284 [.agg #[I a.l, I a.r], .agg #[I b.l, I b.r]] w (.agg #[I (sad a b).l, I (sad a b).r]) := by
  unfold Sam.bd at ha hb
  refine Ret_of (vs := [_, _]) hm none' Tryz.func284 rfl Tryz.ntmps284 rfl ?_
  dsimp only [slotsOf]
  refine GE_seq ?_
  refine GE_plain (.ld 0 [] (.ld 1 [] (.ld 2 [] .nil))) rfl ?_
  refine GT_box (z := [_, _]) rfl rfl rfl rfl rfl rfl rfl (fun _ => GR_nil) (fun b2 => ?_)
  refine GT_box (z := [_, _]) rfl rfl rfl rfl rfl rfl rfl (fun _ => GR_nil) (fun b3 => ?_)
  refine GT_alloc rfl rfl rfl rfl rfl zc_421 (fun _ => GR_nil) (fun b4 => ?_)
  refine GT_nil ?_
  refine GE_seq ?_
  refine GE_plain (.st 0 (.st 1 (.st 2 (.st 3 (.st 4 (.st 5 (.st 6 (.st 7 (.st 8 (.st 9 (.st 10 (.ld 11 [] .nil)))))))))))) rfl ?_
  first | refine GT_st rfl rfl rfl rfl (V_field rfl rfl fo_421_0) ?_ | refine GT_st rfl rfl rfl rfl (V_fieldA rfl rfl fo_421_0) ?_
  refine GT_st rfl rfl rfl rfl (V_load rfl rfl ag_2 (CellAt.item rfl)) ?_
  first | refine GT_st rfl rfl rfl rfl (V_field rfl rfl fo_421_0) ?_ | refine GT_st rfl rfl rfl rfl (V_fieldA rfl rfl fo_421_0) ?_
  refine GT_st rfl rfl rfl rfl (V_load rfl rfl ag_2 (CellAt.item rfl)) ?_
  refine GT_st rfl rfl rfl rfl (V_add rfl rfl rfl (wrap_i64 (by omega))) ?_
  first | refine GT_st rfl rfl rfl rfl (V_field rfl rfl fo_421_1) ?_ | refine GT_st rfl rfl rfl rfl (V_fieldA rfl rfl fo_421_1) ?_
  refine GT_st rfl rfl rfl rfl (V_load rfl rfl ag_2 (CellAt.item rfl)) ?_
  first | refine GT_st rfl rfl rfl rfl (V_field rfl rfl fo_421_1) ?_ | refine GT_st rfl rfl rfl rfl (V_fieldA rfl rfl fo_421_1) ?_
  refine GT_st rfl rfl rfl rfl (V_load rfl rfl ag_2 (CellAt.item rfl)) ?_
  refine GT_st rfl rfl rfl rfl (V_add rfl rfl rfl (wrap_i64 (by omega))) ?_
  refine GT_st rfl rfl rfl rfl (V_build (vs := [_, _]) rfl rfl zc_421 pl_421 sa_421 rfl) ?_
  refine GT_store (vs := [_, _]) (l' := [_, _]) rfl rfl rfl rfl rfl rfl rfl sz_421 rfl rfl (Nat.le_of_ble_eq_true rfl) rfl (GR_nil) ?_
  refine GT_nil ?_
  refine GE_ret Tryz.func284 ⟨_, rfl, fun w m => run_loadVar_agg (vs := [_, _]) ag_421 sz_421 rfl (fun j v hj => CellsAt.item rfl j v hj w m)⟩ (fun w hw => ⟨?_, hw.nil⟩)
  rfl
theorem C_gain {i : Nat} (hi : i < p.length) (hg : ProgOk l p) {k lev : Int} (h0 : 0 ≤ k) (h1 : k < lng (pt p i)) (h2 : 0 ≤ lev) (h3 : lev ≤ 16000) :
    Con0 Tryz.prog 318 [.agg #[I (pt p i).tk, I (pt p i).fr, I (pt p i).to, I (pt p i).gap, I (pt p i).inn, I (pt p i).out, I (pt p i).lev, I i, I (bgn p i), I (en p i)], I k, I lev] w (.agg #[I (gnN (pt p i) k lev), I (gnD (pt p i))]) := by
  have ho := hg.each i hi
  have hu := up_bd ho h0
  have hd := dn_bd ho h1
  have hin := ho.inn
  have hout := ho.out
  have hD := gnD_pos ho
  have hb := bgn_mono hg i hi
  have he := en_fin hg hi
  have hf := hg.fin
  have hen : en p i = bgn p i + lng (pt p i) := rfl
  have m1 := mul_bd h2 h3 (b := up (pt p i) k) (B := 1001) (by omega) (by omega)
  have m2 := mul_bd m1.1 m1.2 (b := dn (pt p i) k) (B := 1001) (by omega) (by omega)
  refine Ret_of (vs := [_, _, _]) hm none' Tryz.func318 rfl Tryz.ntmps318 rfl ?_
  dsimp only [slotsOf]
  refine GE_seq ?_
  refine GE_plain (.ld 0 [] (.ld 1 [] .nil)) rfl ?_
  refine GT_box (z := [_, _, _, _, _, _, _, _, _, _]) rfl rfl rfl rfl rfl rfl rfl (fun _ => GR_nil) (fun b3 => ?_)
  refine GT_alloc rfl rfl rfl rfl rfl zc_524 (fun _ => GR_nil) (fun b6 => ?_)
  refine GT_nil ?_
  refine GE_seq ?_
  refine GE_drawn (.st 0 (.st 1 (.st 2 (.st 3 (.st 4 (.st 5 (.st 6 (.st 7 (.st 8 (.st 9 (.st 10 (.st 11 (.st 12 (.st 13 (.st 14 (.st 15 (.st 16 (.st 17 (.st 18 (.st 19 (.st 20 .nil))))))))))))))))))))) [] (by decide +kernel) ?_
  refine GT_st rfl rfl rfl rfl (V_move rfl rfl) ?_
  first | refine GT_st rfl rfl rfl rfl (V_field rfl rfl fo_384_0) ?_ | refine GT_st rfl rfl rfl rfl (V_fieldA rfl rfl fo_384_0) ?_
  first | refine GT_st rfl rfl rfl rfl (V_field rfl rfl fo_124_4) ?_ | refine GT_st rfl rfl rfl rfl (V_fieldA rfl rfl fo_124_4) ?_
  refine GT_st rfl rfl rfl rfl (V_load rfl rfl ag_3 (CellAt.item rfl)) ?_
  refine GT_st rfl rfl rfl rfl (V_min rfl rfl rfl) ?_
  refine GT_st rfl rfl rfl rfl (V_add rfl rfl rfl ((wrap_i64 (by omega)).trans (show _ = up (pt p i) k from rfl))) ?_
  first | refine GT_st rfl rfl rfl rfl (V_field rfl rfl fo_384_3) ?_ | refine GT_st rfl rfl rfl rfl (V_fieldA rfl rfl fo_384_3) ?_
  refine GT_st rfl rfl rfl rfl (V_load rfl rfl ag_3 (CellAt.item rfl)) ?_
  first | refine GT_st rfl rfl rfl rfl (V_field rfl rfl fo_384_2) ?_ | refine GT_st rfl rfl rfl rfl (V_fieldA rfl rfl fo_384_2) ?_
  refine GT_st rfl rfl rfl rfl (V_load rfl rfl ag_3 (CellAt.item rfl)) ?_
  refine GT_st rfl rfl rfl rfl (V_sub rfl rfl rfl (wrap_i64 (by omega))) ?_
  refine GT_st rfl rfl rfl rfl (V_move rfl rfl) ?_
  refine GT_st rfl rfl rfl rfl (V_sub rfl rfl rfl (wrap_i64 (by omega))) ?_
  refine GT_st rfl rfl rfl rfl (V_sub rfl rfl rfl (wrap_i64 (by omega))) ?_
  first | refine GT_st rfl rfl rfl rfl (V_field rfl rfl fo_384_0) ?_ | refine GT_st rfl rfl rfl rfl (V_fieldA rfl rfl fo_384_0) ?_
  first | refine GT_st rfl rfl rfl rfl (V_field rfl rfl fo_124_5) ?_ | refine GT_st rfl rfl rfl rfl (V_fieldA rfl rfl fo_124_5) ?_
  refine GT_st rfl rfl rfl rfl (V_load rfl rfl ag_3 (CellAt.item rfl)) ?_
  refine GT_st rfl rfl rfl rfl (V_min rfl rfl rfl) ?_
  refine GT_st rfl rfl rfl rfl (V_add rfl rfl rfl ((wrap_i64 (by omega)).trans (show _ = dn (pt p i) k by unfold dn; rw [hen]; omega))) ?_
  refine GT_st rfl rfl rfl rfl (V_assign rfl rfl) ?_
  refine GT_st rfl rfl rfl rfl (V_assign rfl rfl) ?_
  refine GT_nil ?_
  refine GE_seq ?_
  refine GE_slots (L' := [(2, _), (3, _), (6, _), (7, _), (8, _)]) ⟨rfl, rfl, rfl, rfl, rfl, trivial⟩ ?_
  refine GE_plain (.st 0 (.st 1 (.st 2 (.st 3 (.st 4 (.st 5 (.st 6 (.st 7 (.st 8 (.st 9 (.st 10 (.st 11 (.st 12 (.st 13 (.st 14 (.st 15 (.ld 16 [] .nil))))))))))))))))) rfl ?_
  refine GT_st rfl rfl rfl rfl (V_move rfl rfl) ?_
  refine GT_st rfl rfl rfl rfl (V_move rfl rfl) ?_
  refine GT_st rfl rfl rfl rfl (V_mul rfl rfl rfl (wrap_i64 (by omega))) ?_
  refine GT_st rfl rfl rfl rfl (V_move rfl rfl) ?_
  refine GT_st rfl rfl rfl rfl (V_mul rfl rfl rfl ((wrap_i64 (by omega)).trans (show _ = gnN (pt p i) k lev from rfl))) ?_
  first | refine GT_st rfl rfl rfl rfl (V_field rfl rfl fo_384_0) ?_ | refine GT_st rfl rfl rfl rfl (V_fieldA rfl rfl fo_384_0) ?_
  first | refine GT_st rfl rfl rfl rfl (V_field rfl rfl fo_124_4) ?_ | refine GT_st rfl rfl rfl rfl (V_fieldA rfl rfl fo_124_4) ?_
  refine GT_st rfl rfl rfl rfl (V_load rfl rfl ag_3 (CellAt.item rfl)) ?_
  refine GT_st rfl rfl rfl rfl (V_add rfl rfl rfl (wrap_i64 (by omega))) ?_
  refine GT_st rfl rfl rfl rfl (V_mul rfl rfl rfl (wrap_i64 (by omega))) ?_
  first | refine GT_st rfl rfl rfl rfl (V_field rfl rfl fo_384_0) ?_ | refine GT_st rfl rfl rfl rfl (V_fieldA rfl rfl fo_384_0) ?_
  first | refine GT_st rfl rfl rfl rfl (V_field rfl rfl fo_124_5) ?_ | refine GT_st rfl rfl rfl rfl (V_fieldA rfl rfl fo_124_5) ?_
  refine GT_st rfl rfl rfl rfl (V_load rfl rfl ag_3 (CellAt.item rfl)) ?_
  refine GT_st rfl rfl rfl rfl (V_add rfl rfl rfl (wrap_i64 (by omega))) ?_
  refine GT_st rfl rfl rfl rfl (V_mul rfl rfl rfl ((wrap_i64 (by unfold gnD at hD; omega)).trans (show _ = gnD (pt p i) from rfl))) ?_
  refine GT_st rfl rfl rfl rfl (V_build (vs := [_, _]) rfl rfl zc_524 pl_524 sa_524 rfl) ?_
  refine GT_store (vs := [_, _]) (l' := [_, _]) rfl rfl rfl rfl rfl rfl rfl sz_524 rfl rfl (Nat.le_of_ble_eq_true rfl) rfl (GR_nil) ?_
  refine GT_nil ?_
  refine GE_ret Tryz.func318 ⟨_, rfl, fun w m => run_loadVar_agg (vs := [_, _]) ag_524 sz_524 rfl (fun j v hj => CellsAt.item rfl j v hj w m)⟩ (fun w hw => ⟨?_, hw.nil⟩)
  rfl
theorem C_of {n d s : Int} (hd : 1 ≤ d) (h : amt (s * n) ≤ 9000000000000000000) : Con0 Tryz.prog 319 [.agg #[I n, I d], I s] w (I ((s * n).tdiv d)) := by
  have hq : amt ((s * n).tdiv d) ≤ amt (s * n) := by
    have := tdiv_bd (a := s * n) (d := d) (c := 1000 * amt (s * n)) (by omega) (by have := amt_nonneg (s * n); omega) (by
      have h0 := amt_nonneg (s * n)
      have := Int.mul_le_mul_of_nonneg_left hd (show 0 ≤ 1000 * amt (s * n) by omega)
      rw [Int.mul_one] at this
      exact this)
    omega
  unfold amt at h hq
  refine Ret_of (vs := [_, _]) hm none' Tryz.func319 rfl Tryz.ntmps319 rfl ?_
  dsimp only [slotsOf]
  refine GE_seq ?_
  refine GE_plain (.ld 0 [] (.st 1 .nil)) rfl ?_
  refine GT_box (z := [_, _]) rfl rfl rfl rfl rfl rfl rfl (fun _ => GR_nil) (fun b2 => ?_)
  refine GT_st rfl rfl rfl rfl (V_assign rfl rfl) ?_
  refine GT_nil ?_
  refine GE_seq ?_
  refine GE_plain (.st 0 (.st 1 (.st 2 (.st 3 (.st 4 (.st 5 (.st 6 (.st 7 .nil)))))))) rfl ?_
  refine GT_st rfl rfl rfl rfl (V_move rfl rfl) ?_
  first | refine GT_st rfl rfl rfl rfl (V_field rfl rfl fo_524_0) ?_ | refine GT_st rfl rfl rfl rfl (V_fieldA rfl rfl fo_524_0) ?_
  refine GT_st rfl rfl rfl rfl (V_load rfl rfl ag_2 (CellAt.item rfl)) ?_
  refine GT_st rfl rfl rfl rfl (V_mul rfl rfl rfl (wrap_i64 (by omega))) ?_
  first | refine GT_st rfl rfl rfl rfl (V_field rfl rfl fo_524_1) ?_ | refine GT_st rfl rfl rfl rfl (V_fieldA rfl rfl fo_524_1) ?_
  refine GT_st rfl rfl rfl rfl (V_load rfl rfl ag_2 (CellAt.item rfl)) ?_
  refine GT_st rfl rfl rfl rfl (V_quo rfl rfl rfl (by omega) (wrap_i64 (by omega))) ?_
  refine GT_st rfl rfl rfl rfl (V_assign rfl rfl) ?_
  refine GT_nil ?_
  refine GE_ret Tryz.func319 rfl (fun w hw => ⟨?_, hw.nil⟩)
  rfl
theorem C_sound {i g : Nat} {X Y : Value} (hi : i < p.length) (hg : ProgOk l p) {k lev : Int} (h0 : 0 ≤ k) (h1 : k < lng (pt p i)) (h2 : 0 ≤ lev) (h3 : lev ≤ 16000) (h : Tks w A l) (hb : BlkAt w g [.slice A l.length c, X, Y] 381) :
    Con0 Tryz.prog 285 [ptr g 0, .agg #[I (pt p i).tk, I (pt p i).fr, I (pt p i).to, I (pt p i).gap, I (pt p i).inn, I (pt p i).out, I (pt p i).lev, I i, I (bgn p i), I (en p i)], I k, I lev] w (.agg #[I (snd l (pt p i) k lev).l, I (snd l (pt p i) k lev).r]) := by
  have ho := hg.each i hi
  have hsm := smp_ok hg.tks ho h0 h1
  obtain ⟨q1, q2, q3, q4⟩ := hsm
  have hD := gnD_pos ho
  have hN := gnN_bd ho h0 h1 h2
  have hdat := (h.2 _ (getD_mem q2)).1
  have hfr := ho.fr0
  have hfr1 := ho.frto
  have hto := ho.to1
  have htk := ho.tk0
  have hlen : (tkOf l (pt p i)).data.length ≤ 4096 := (tErr_zero.1 (hg.tks.each _ (getD_mem q2))).1
  have hk : k < (pt p i).to - (pt p i).fr := h1
  have hgn : gnN (pt p i) k lev ≤ 16032016000 := by
    have m := mul_bd h2 h3 (b := gnD (pt p i)) (B := 1002001000) (by omega) hD.2
    omega
  have hb1 : amt ((smp l (pt p i) k).l * gnN (pt p i) k lev) ≤ 9000000000000000000 := by
    rw [amt_mul hN.1]; have := mul_bd (amt_nonneg (smp l (pt p i) k).l) (A := 32767) (by unfold amt; omega) hN.1 hgn; omega
  have hb2 : amt ((smp l (pt p i) k).r * gnN (pt p i) k lev) ≤ 9000000000000000000 := by
    rw [amt_mul hN.1]; have := mul_bd (amt_nonneg (smp l (pt p i) k).r) (A := 32767) (by unfold amt; omega) hN.1 hgn; omega
  refine Ret_of (vs := [_, _, _, _]) hm none' Tryz.func285 rfl Tryz.ntmps285 rfl ?_
  dsimp only [slotsOf]
  refine GE_seq ?_
  refine GE_plain (.ld 0 [] (.ld 1 [] .nil)) rfl ?_
  refine GT_box (z := [_, _, _, _, _, _, _, _, _, _]) rfl rfl rfl rfl rfl rfl rfl (fun _ => GR_nil) (fun b5 => ?_)
  refine GT_alloc rfl rfl rfl rfl rfl zc_421 (fun _ => GR_nil) (fun b8 => ?_)
  refine GT_nil ?_
  refine GE_seq ?_
  refine GE_plain (.st 0 (.st 1 (.st 2 (.ld 3 [] (.st 4 (.st 5 .nil)))))) rfl ?_
  refine GT_st rfl rfl rfl rfl (V_loadN (vs := [_, _, _, _, _, _, _, _, _, _]) rfl rfl ag_384 sz_384 rfl (CellsAt.item rfl)) ?_
  refine GT_st rfl rfl rfl rfl (V_move rfl rfl) ?_
  refine GT_st rfl rfl rfl rfl (V_move rfl rfl) ?_
  refine GT_call0 rfl rfl rfl rfl rfl rfl rfl rfl rn_318 (fun w hw => C_gain hi hg h0 h1 h2 h3) (GR_nil) ?_
  refine GT_st rfl rfl rfl rfl (V_makeFunc rfl rfl rfl) ?_
  refine GT_st rfl rfl rfl rfl (V_assign rfl rfl) ?_
  refine GT_nil ?_
  refine GE_seq ?_
  refine GE_slots (L' := [(0, _), (2, _), (5, _), (8, _), (9, _)]) ⟨rfl, rfl, rfl, rfl, rfl, trivial⟩ ?_
  refine GE_drawn (.st 0 (.st 1 (.st 2 (.st 3 (.st 4 (.st 5 (.st 6 (.st 7 (.st 8 (.st 9 (.st 10 (.st 11 (.st 12 (.st 13 (.st 14 (.st 15 (.st 16 (.ld 17 [0, 1, 2, 3, 4, 5, 6, 7, 8, 9, 10, 11, 12, 13, 14, 15, 16] (.ld 18 [] .nil))))))))))))))))))) [17, 18] (by decide +kernel) ?_
  refine GT_st rfl rfl rfl rfl (V_move rfl rfl) ?_
  first | refine GT_st rfl rfl rfl rfl (V_nilCheck rfl rfl) ?_ | refine GT_st rfl rfl rfl rfl (V_nilCheck_func rfl rfl) ?_ | refine GT_st rfl rfl rfl rfl (V_nilCheck_yield rfl rfl) ?_
  first | refine GT_st rfl rfl rfl rfl (V_field rfl rfl fo_381_0) ?_ | refine GT_st rfl rfl rfl rfl (V_fieldA rfl rfl fo_381_0) ?_
  refine GT_st rfl rfl rfl rfl (V_load rfl rfl ag_107 (.old (hb.cell rfl) (noM _))) ?_
  first | refine GT_st rfl rfl rfl rfl (V_field rfl rfl fo_384_0) ?_ | refine GT_st rfl rfl rfl rfl (V_fieldA rfl rfl fo_384_0) ?_
  first | refine GT_st rfl rfl rfl rfl (V_field rfl rfl fo_124_0) ?_ | refine GT_st rfl rfl rfl rfl (V_fieldA rfl rfl fo_124_0) ?_
  refine GT_st rfl rfl rfl rfl (V_load rfl rfl ag_3 (CellAt.item rfl)) ?_
  refine GT_st rfl rfl rfl rfl (V_index rfl rfl rfl Tryz.underlying107 sz_230 (k := (pt p i).tk.toNat) (by omega) q2 (h.1.isSome q2)) ?_
  first | refine GT_st rfl rfl rfl rfl (V_field rfl rfl fo_230_1) ?_ | refine GT_st rfl rfl rfl rfl (V_fieldA rfl rfl fo_230_1) ?_
  refine GT_st rfl rfl rfl rfl (V_load rfl rfl ag_228 (h.1.at1 noM q2 rfl)) ?_
  first | refine GT_st rfl rfl rfl rfl (V_field rfl rfl fo_384_0) ?_ | refine GT_st rfl rfl rfl rfl (V_fieldA rfl rfl fo_384_0) ?_
  first | refine GT_st rfl rfl rfl rfl (V_field rfl rfl fo_124_1) ?_ | refine GT_st rfl rfl rfl rfl (V_fieldA rfl rfl fo_124_1) ?_
  refine GT_st rfl rfl rfl rfl (V_load rfl rfl ag_3 (CellAt.item rfl)) ?_
  refine GT_st rfl rfl rfl rfl (V_move rfl rfl) ?_
  refine GT_st rfl rfl rfl rfl (V_add rfl rfl rfl (wrap_i64 (by omega))) ?_
  refine GT_st rfl rfl rfl rfl (V_index rfl rfl rfl Tryz.underlying228 sz_421 (k := ((pt p i).fr + k).toNat) (by omega) q1 (hdat.isSome q1)) ?_
  refine GT_st rfl rfl rfl rfl (V_loadN (vs := [_, _]) rfl rfl ag_421 sz_421 rfl (show CellsAt _ _ _ (eSam (smp l (pt p i) k)) from hdat.ats noM q1)) ?_
  refine GT_alloc rfl rfl rfl rfl rfl zc_421 (fun _ => GR_cons rfl rfl rfl rfl (V_move rfl rfl) (GR_cons rfl rfl rfl rfl ((by first | exact V_nilCheck rfl rfl | exact V_nilCheck_func rfl rfl | exact V_nilCheck_yield rfl rfl)) (GR_cons rfl rfl rfl rfl ((by first | exact V_field rfl rfl fo_381_0 | exact V_fieldA rfl rfl fo_381_0)) (GR_cons rfl rfl rfl rfl (V_load rfl rfl ag_107 (.old (hb.cell rfl) (noM _))) (GR_cons rfl rfl rfl rfl ((by first | exact V_field rfl rfl fo_384_0 | exact V_fieldA rfl rfl fo_384_0)) (GR_cons rfl rfl rfl rfl ((by first | exact V_field rfl rfl fo_124_0 | exact V_fieldA rfl rfl fo_124_0)) (GR_cons rfl rfl rfl rfl (V_load rfl rfl ag_3 (CellAt.item rfl)) (GR_cons rfl rfl rfl rfl (V_index rfl rfl rfl Tryz.underlying107 sz_230 (k := (pt p i).tk.toNat) (by omega) q2 (h.1.isSome q2)) (GR_cons rfl rfl rfl rfl ((by first | exact V_field rfl rfl fo_230_1 | exact V_fieldA rfl rfl fo_230_1)) (GR_cons rfl rfl rfl rfl (V_load rfl rfl ag_228 (h.1.at1 noM q2 rfl)) (GR_cons rfl rfl rfl rfl ((by first | exact V_field rfl rfl fo_384_0 | exact V_fieldA rfl rfl fo_384_0)) (GR_cons rfl rfl rfl rfl ((by first | exact V_field rfl rfl fo_124_1 | exact V_fieldA rfl rfl fo_124_1)) (GR_cons rfl rfl rfl rfl (V_load rfl rfl ag_3 (CellAt.item rfl)) (GR_cons rfl rfl rfl rfl (V_move rfl rfl) (GR_cons rfl rfl rfl rfl (V_add rfl rfl rfl (wrap_i64 (by omega))) (GR_cons rfl rfl rfl rfl (V_index rfl rfl rfl Tryz.underlying228 sz_421 (k := ((pt p i).fr + k).toNat) (by omega) q1 (hdat.isSome q1)) (GR_cons rfl rfl rfl rfl (V_loadN (vs := [_, _]) rfl rfl ag_421 sz_421 rfl (show CellsAt _ _ _ (eSam (smp l (pt p i) k)) from hdat.ats noM q1)) (GR_nil)))))))))))))))))) (fun b10 => ?_)
  refine GT_store (vs := [_, _]) (l' := [_, _]) rfl rfl rfl rfl rfl rfl rfl sz_421 rfl rfl (Nat.le_of_ble_eq_true rfl) rfl (GR_nil) ?_
  refine GT_nil ?_
  refine GE_seq ?_
  refine GE_slots (L' := [(8, _), (9, _), (10, _)]) ⟨rfl, rfl, rfl, trivial⟩ ?_
  refine GE_drawn (.st 0 (.st 1 (.st 2 (.st 4 (.st 5 (.st 6 (.ld 3 [4, 5, 6] (.ld 7 [] (.st 8 (.ld 9 [] .nil)))))))))) [3, 7, 9] (by decide +kernel) ?_
  refine GT_st rfl rfl rfl rfl (V_move rfl rfl) ?_
  first | refine GT_st rfl rfl rfl rfl (V_field rfl rfl fo_421_0) ?_ | refine GT_st rfl rfl rfl rfl (V_fieldA rfl rfl fo_421_0) ?_
  refine GT_st rfl rfl rfl rfl (V_load rfl rfl ag_2 (CellAt.item rfl)) ?_
  refine GT_st rfl rfl rfl rfl (V_move rfl rfl) ?_
  first | refine GT_st rfl rfl rfl rfl (V_field rfl rfl fo_421_1) ?_ | refine GT_st rfl rfl rfl rfl (V_fieldA rfl rfl fo_421_1) ?_
  refine GT_st rfl rfl rfl rfl (V_load rfl rfl ag_2 (CellAt.item rfl)) ?_
  refine GT_call0 rfl rfl rfl rfl rfl rfl rfl rfl rn_319 (fun w hw => C_of (by omega) hb1) (GR_cons rfl rfl rfl rfl (V_move rfl rfl) (GR_cons rfl rfl rfl rfl ((by first | exact V_field rfl rfl fo_421_1 | exact V_fieldA rfl rfl fo_421_1)) (GR_cons rfl rfl rfl rfl (V_load rfl rfl ag_2 (CellAt.item rfl)) (GR_nil)))) ?_
  refine GT_call0 rfl rfl rfl rfl rfl rfl rfl rfl rn_319 (fun w hw => C_of (by omega) hb2) (GR_nil) ?_
  refine GT_st rfl rfl rfl rfl (V_build (vs := [_, _]) rfl rfl zc_421 pl_421 sa_421 rfl) ?_
  refine GT_store (vs := [_, _]) (l' := [_, _]) rfl rfl rfl rfl rfl rfl rfl sz_421 rfl rfl (Nat.le_of_ble_eq_true rfl) rfl (GR_nil) ?_
  refine GT_nil ?_
  refine GE_ret Tryz.func285 ⟨_, rfl, fun w m => run_loadVar_agg (vs := [_, _]) ag_421 sz_421 rfl (fun j v hj => CellsAt.item rfl j v hj w m)⟩ (fun w hw => ⟨?_, hw.nil⟩)
  rfl
end
end Go.Proofs.YtpbflnfcgcldkaaGreatDoor.Take
/- Programmes are rendered, walked. -/
namespace Go.Proofs.YtpbflnfcgcldkaaGreatDoor.Take
open Go.Sx Go.Proofs Go.RowKit
section
variable {w : World} {A A2 : Option Addr} {c c2 : Nat} {l : List Tk} {p : List Prt}
theorem vR_bd (hg : ProgOk l p) : ∀ i k, i < p.length → 0 ≤ k → k < lng (pt p i) → (vR l p i k).bd 1000000 := by
  intro i k hi h0 h1
  have ho := hg.each i hi
  exact snd_bd hg.tks ho h0 h1 ho.lev.1 (by have := ho.lev.2; omega)
theorem mixN_bd8 {v : Nat → Int → Sam} (hg : ProgOk l p) (hv : ∀ i k, i < p.length → 0 ≤ k → k < lng (pt p i) → (v i k).bd 1000000) {i : Nat} (hi : i ≤ p.length) (t : Int) : (mixN p v i t).bd 100000000 := by
  have h := mixN_bd (B := 1000000) (by decide) i t hi hv
  have := hg.most
  exact Sam.bd.mono h (by omega)
set_option maxRecDepth 10000 in
set_option maxHeartbeats 2000000 in
theorem C_Render (h : Tks w A l) (hp : RdL w 7 ePrt A2 p) : Con Tryz.prog 240 [.slice A l.length c, .slice A2 p.length c2] w (fun y : Option Addr × Nat × Items => Own 2 421 eSam (rendL l p) (.slice y.1 (rendL l p).length y.2.1) y.2.2)
    (fun y => .tuple #[.slice y.1 (rendL l p).length y.2.1, I (rErr l p)]) (fun y => y.2.2) := by
  by_cases hg : gErr l p = 0
  · have hP := gErr_zero.1 hg
    have hfl := hP.fin
    have hf0 := fin_nonneg hP
    have hml : (rend l p).length = (fin p).toNat := mix_len p (vR l p)
    have hpm := hP.most
    refine Ret_of (vs := [_, _]) hm none' Tryz.func240 rfl Tryz.ntmps240 rfl ?_
    dsimp only [slotsOf]
    refine GE_seq ?_
    refine GE_plain (.st 0 (.st 1 .nil)) rfl ?_
    refine GT_st rfl rfl rfl rfl (V_assign rfl rfl) ?_
    refine GT_st rfl rfl rfl rfl (V_assign rfl rfl) ?_
    refine GT_nil ?_
    refine GE_seq ?_
    refine GE_plain (.st 0 (.st 1 (.ld 2 [] (.st 3 (.st 4 (.st 5 (.st 6 (.st 7 .nil)))))))) rfl ?_
    refine GT_st rfl rfl rfl rfl (V_move rfl rfl) ?_
    refine GT_st rfl rfl rfl rfl (V_move rfl rfl) ?_
    refine GT_call rfl rfl rfl rfl rfl rfl rfl rfl rn_150 (fun w hw => C_new_ok (h.sh hw) (hp.sh hw) hg) (fun _ _ => GR_nil) (fun y hy => ?_)
    refine GT_st rfl rfl rfl rfl (V_move rfl rfl) ?_
    refine GT_st rfl rfl rfl rfl (V_extract rfl rfl rfl) ?_
    refine GT_st rfl rfl rfl rfl (V_extract rfl rfl rfl) ?_
    refine GT_st rfl rfl rfl rfl (V_assign rfl rfl) ?_
    refine GT_st rfl rfl rfl rfl (V_assign rfl rfl) ?_
    refine GT_nil ?_
    refine GE_seq ?_
    refine GE_seq ?_
    refine GE_slots (L' := [(6, _), (7, _)]) ⟨rfl, rfl, trivial⟩ ?_
    refine GE_plain (.st 0 (.st 1 .nil)) rfl ?_
    refine GT_st rfl rfl rfl rfl (V_move rfl rfl) ?_
    refine GT_st rfl rfl rfl rfl (V_isF (V_neq rfl rfl rfl) (by decide)) ?_
    refine GT_nil ?_
    refine GE_cond_f rfl ?_
    refine GE_skip ?_
    refine GE_seq ?_
    refine GE_plain (.st 0 (.st 1 (.st 2 (.st 3 (.ld 4 [] (.st 5 .nil)))))) rfl ?_
    refine GT_st rfl rfl rfl rfl (V_move rfl rfl) ?_
    first | refine GT_st rfl rfl rfl rfl (V_nilCheck rfl rfl) ?_ | refine GT_st rfl rfl rfl rfl (V_nilCheck_func rfl rfl) ?_ | refine GT_st rfl rfl rfl rfl (V_nilCheck_yield rfl rfl) ?_
    first | refine GT_st rfl rfl rfl rfl (V_field rfl rfl fo_381_2) ?_ | refine GT_st rfl rfl rfl rfl (V_fieldA rfl rfl fo_381_2) ?_
    refine GT_st rfl rfl rfl rfl (V_load rfl rfl ag_3 (CellAt.item rfl)) ?_
    refine GT_makeSlice rfl rfl rfl rfl rfl rfl rfl Tryz.underlying228 zc_421 sz_421 by_421 (nn := (fin p).toNat) ⟨by omega, by omega, rfl⟩ ⟨by omega, by omega⟩ (fun _ => GR_nil) (fun b25 => ?_)
    refine GT_st rfl rfl rfl rfl (V_assign rfl rfl) ?_
    refine GT_nil ?_
    refine GE_seq ?_
    refine GE_seq ?_
    refine GE_slots (L' := [(6, _), (8, _)]) ⟨rfl, rfl, trivial⟩ ?_
    refine GE_plain (.st 0 (.st 1 (.st 2 (.st 3 (.st 4 (.st 5 .nil)))))) rfl ?_
    refine GT_st rfl rfl rfl rfl (V_move rfl rfl) ?_
    first | refine GT_st rfl rfl rfl rfl (V_nilCheck rfl rfl) ?_ | refine GT_st rfl rfl rfl rfl (V_nilCheck_func rfl rfl) ?_ | refine GT_st rfl rfl rfl rfl (V_nilCheck_yield rfl rfl) ?_
    first | refine GT_st rfl rfl rfl rfl (V_field rfl rfl fo_381_1) ?_ | refine GT_st rfl rfl rfl rfl (V_fieldA rfl rfl fo_381_1) ?_
    refine GT_st rfl rfl rfl rfl (V_load rfl rfl ag_379 (CellAt.item rfl)) ?_
    refine GT_st rfl rfl rfl rfl (V_len rfl Tryz.underlying379 rfl) ?_
    refine GT_st rfl rfl rfl rfl (V_move rfl rfl) ?_
    refine GT_nil ?_
    refine GE_block ?_
    refine GE_to (GE_loop (ι := Nat × Items) (fun x => p.length - x.1) (fun x => [(6, ptr y.1 0), (8, .slice (some ⟨b25, 0, none⟩) (fin p).toNat (fin p).toNat), (29, .slice y.2.1 p.length y.2.2.1), (30, I p.length), (31, I x.1)]) (fun x => (y.1, blk [.slice A l.length c, .slice y.2.1 p.length y.2.2.1, I (fin p)] 381) :: (y.2.2.2 ++ x.2)) (fun x => x.1 ≤ p.length ∧ Own 2 421 eSam (mixP p (vR l p) x.1) (.slice (some ⟨b25, 0, none⟩) (fin p).toNat (fin p).toNat) x.2) ?_ (0, [(b25, blk ((List.replicate (fin p).toNat [I 0, I 0]).flatten) 421)]) ?_) ⟨rfl, rfl, rfl, rfl, rfl, trivial⟩ (HS.cons rfl (HS.chunk HS.last))
    · rintro ⟨i, I1⟩ ⟨hi, hO⟩ ih; dsimp only at hi hO ih ⊢
      refine GE_seq ?_
      refine GE_plain (.st 0 .nil) rfl ?_
      refine GT_st rfl rfl rfl rfl (V_lss rfl rfl rfl) ?_
      refine GT_nil ?_
      refine GE_seq ?_
      first | refine GE_condNot rfl (fun h1 => ?_) (fun h1 => ?_) | refine GE_cond rfl (fun h1 => ?_) (fun h1 => ?_) | refine GE_condNotB rfl (fun h1 => ?_) (fun h1 => ?_) | refine GE_condB rfl (fun h1 => ?_) (fun h1 => ?_)
      · have hil : i < p.length := (by omega); have hbi := bgn_mono hP i hil; have hei := en_fin hP hil; have hlp := lng_pos (hP.each i hil); have hen : en p i = bgn p i + lng (pt p i) := rfl; obtain ⟨bn, hbn⟩ : ∃ bn : Nat, bgn p i = bn := ⟨(bgn p i).toNat, by omega⟩
        refine GE_skip ?_
        refine GE_seq ?_
        refine GE_block ?_
        refine GE_seq ?_
        refine GE_plain (.st 0 (.st 1 (.ld 2 [] (.ld 3 [] .nil)))) rfl ?_
        refine GT_st rfl rfl rfl rfl (V_index rfl rfl rfl Tryz.underlying379 sz_384 (k := i) rfl hil (hy.isSome (k := i) (by rw [plcs_len]; exact hil))) ?_
        refine GT_st rfl rfl rfl rfl (V_loadN (vs := [_, _, _, _, _, _, _, _, _, _]) rfl rfl ag_384 sz_384 rfl (CellsAt.ownE hy ePlc_len (by rw [plcs_len]; exact hil) (by rw [plcs_get hil, ePlc_plc]))) ?_
        refine GT_alloc rfl rfl rfl rfl rfl zc_384 (fun _ => GR_nil) (fun b10 => ?_)
        refine GT_store (vs := [_, _, _, _, _, _, _, _, _, _]) (l' := [_, _, _, _, _, _, _, _, _, _]) rfl rfl rfl rfl rfl rfl rfl sz_384 rfl rfl (Nat.le_of_ble_eq_true rfl) rfl (GR_nil) ?_
        refine GT_nil ?_
        refine GE_seq ?_
        refine GE_plain (.st 0 (.st 1 (.st 2 .nil))) rfl ?_
        first | refine GT_st rfl rfl rfl rfl (V_field rfl rfl fo_384_2) ?_ | refine GT_st rfl rfl rfl rfl (V_fieldA rfl rfl fo_384_2) ?_
        refine GT_st rfl rfl rfl rfl (V_load rfl rfl ag_3 (CellAt.item rfl)) ?_
        refine GT_st rfl rfl rfl rfl (V_assign rfl rfl) ?_
        refine GT_nil ?_
        refine GE_block ?_
        refine GE_to (GE_loop (ι := Nat × Items) (fun x => (fin p).toNat - x.1) (fun x => [(6, ptr y.1 0), (8, .slice (some ⟨b25, 0, none⟩) (fin p).toNat (fin p).toNat), (10, ptr b10 0), (11, I x.1), (29, .slice y.2.1 p.length y.2.2.1), (30, I p.length), (31, I i)]) (fun x => (b10, blk [I (pt p i).tk, I (pt p i).fr, I (pt p i).to, I (pt p i).gap, I (pt p i).inn, I (pt p i).out, I (pt p i).lev, I i, I (bgn p i), I (en p i)] 384) :: (y.1, blk [.slice A l.length c, .slice y.2.1 p.length y.2.2.1, I (fin p)] 381) :: (y.2.2.2 ++ x.2)) (fun x => bgn p i ≤ x.1 ∧ (x.1 : Int) ≤ en p i ∧ Own 2 421 eSam (mixS p (vR l p) i x.1) (.slice (some ⟨b25, 0, none⟩) (fin p).toNat (fin p).toNat) x.2) ?_ (bn, I1) ?_) ⟨rfl, rfl, rfl, lookI rfl hbn, rfl, rfl, rfl, trivial⟩ (HS.cons rfl (HS.cons rfl (HS.chunk HS.last)))
        · rintro ⟨t, I2⟩ ⟨ht1, ht2, hO2⟩ ih2; dsimp only at ht1 ht2 hO2 ih2 ⊢
          refine GE_seq ?_
          refine GE_seq ?_
          refine GE_plain (.st 0 (.st 1 (.st 2 (.st 3 .nil)))) rfl ?_
          refine GT_st rfl rfl rfl rfl (V_move rfl rfl) ?_
          first | refine GT_st rfl rfl rfl rfl (V_field rfl rfl fo_384_3) ?_ | refine GT_st rfl rfl rfl rfl (V_fieldA rfl rfl fo_384_3) ?_
          refine GT_st rfl rfl rfl rfl (V_load rfl rfl ag_3 (CellAt.item rfl)) ?_
          refine GT_st rfl rfl rfl rfl (V_lss rfl rfl rfl) ?_
          refine GT_nil ?_
          first | refine GE_condNot rfl (fun h2 => ?_) (fun h2 => ?_) | refine GE_cond rfl (fun h2 => ?_) (fun h2 => ?_) | refine GE_condNotB rfl (fun h2 => ?_) (fun h2 => ?_) | refine GE_condB rfl (fun h2 => ?_) (fun h2 => ?_)
          · have htl : t < (fin p).toNat := (by omega); have hml2 := mixS_len p (vR l p) i t; have hlv := (hP.each i hil).lev; have hnb := mixN_bd8 hP (vR_bd hP) (Nat.le_of_lt hil) (t : Int); have hvb := vR_bd hP i ((t : Int) - bgn p i) hil (by omega) (by omega)
            refine GE_skip ?_
            refine GE_seq ?_
            refine GE_block ?_
            refine GE_slots (L' := [(6, _), (8, _), (10, _), (11, _), (29, _), (30, _), (31, _)]) ⟨rfl, rfl, rfl, rfl, rfl, rfl, rfl, trivial⟩ ?_
            refine GE_drawn (.st 0 (.st 1 (.st 2 (.st 3 (.st 4 (.st 5 (.st 6 (.st 7 (.st 8 (.st 9 (.st 10 (.st 11 (.st 12 (.st 13 (.st 14 (.ld 15 [0, 1, 2, 3, 4, 5] (.ld 16 [0, 1] (.st 17 (.ld 18 [] .nil))))))))))))))))))) [15, 16, 18] (by decide +kernel) ?_
            refine GT_st rfl rfl rfl rfl (V_move rfl rfl) ?_
            refine GT_st rfl rfl rfl rfl (V_move rfl rfl) ?_
            refine GT_st rfl rfl rfl rfl (V_move rfl rfl) ?_
            refine GT_st rfl rfl rfl rfl (V_move rfl rfl) ?_
            refine GT_st rfl rfl rfl rfl (V_index rfl rfl rfl Tryz.underlying228 sz_421 (k := t) rfl htl rfl) ?_
            refine GT_st rfl rfl rfl rfl (V_loadN (vs := [_, _]) rfl rfl ag_421 sz_421 rfl (CellsAt.ownE hO2 eSam_len (by omega) (by rw [mixS_at htl]; rfl))) ?_
            refine GT_st rfl rfl rfl rfl (V_move rfl rfl) ?_
            refine GT_st rfl rfl rfl rfl (V_loadN (vs := [_, _, _, _, _, _, _, _, _, _]) rfl rfl ag_384 sz_384 rfl (CellsAt.item rfl)) ?_
            refine GT_st rfl rfl rfl rfl (V_move rfl rfl) ?_
            first | refine GT_st rfl rfl rfl rfl (V_field rfl rfl fo_384_2) ?_ | refine GT_st rfl rfl rfl rfl (V_fieldA rfl rfl fo_384_2) ?_
            refine GT_st rfl rfl rfl rfl (V_load rfl rfl ag_3 (CellAt.item rfl)) ?_
            refine GT_st rfl rfl rfl rfl (V_sub rfl rfl rfl (wrap_i64 (by omega))) ?_
            first | refine GT_st rfl rfl rfl rfl (V_field rfl rfl fo_384_0) ?_ | refine GT_st rfl rfl rfl rfl (V_fieldA rfl rfl fo_384_0) ?_
            first | refine GT_st rfl rfl rfl rfl (V_field rfl rfl fo_124_6) ?_ | refine GT_st rfl rfl rfl rfl (V_fieldA rfl rfl fo_124_6) ?_
            refine GT_st rfl rfl rfl rfl (V_load rfl rfl ag_2 (CellAt.item rfl)) ?_
            refine GT_call0 rfl rfl rfl rfl rfl rfl rfl rfl rn_285 (fun w hw => C_sound (i := i) (k := (t : Int) - bgn p i) (lev := (pt p i).lev) hil hP (by omega) (by omega) hlv.1 (by omega) (h.sh hw) (BlkAt.of hw)) (GR_cons rfl rfl rfl rfl (V_move rfl rfl) (GR_cons rfl rfl rfl rfl (V_move rfl rfl) (GR_cons rfl rfl rfl rfl (V_move rfl rfl) (GR_cons rfl rfl rfl rfl (V_move rfl rfl) (GR_cons rfl rfl rfl rfl (V_index rfl rfl rfl Tryz.underlying228 sz_421 (k := t) rfl htl rfl) (GR_cons rfl rfl rfl rfl (V_loadN (vs := [_, _]) rfl rfl ag_421 sz_421 rfl (CellsAt.ownE hO2 eSam_len (by omega) (by rw [mixS_at htl]; rfl))) (GR_nil))))))) ?_
            refine GT_call0 rfl rfl rfl rfl rfl rfl rfl rfl rn_284 (fun w hw => C_sum (a := mixN p (vR l p) i t) (b := snd l (pt p i) ((t : Int) - bgn p i) (pt p i).lev) hnb (Sam.bd.mono hvb (by decide))) (GR_cons rfl rfl rfl rfl (V_move rfl rfl) (GR_cons rfl rfl rfl rfl (V_move rfl rfl) (GR_nil))) ?_
            refine GT_st rfl rfl rfl rfl (V_index rfl rfl rfl Tryz.underlying228 sz_421 (k := t) rfl htl rfl) ?_
            refine GT_storeOwn (enc := eSam) (q := t) (xx := sad (mixN p (vR l p) i t) (vR l p i ((t : Int) - bgn p i))) rfl rfl rfl rfl rfl rfl rfl sz_421 hO2 eSam_len eSam_one (by omega) (by decide) (fun _ _ => GR_nil) (fun I3 hO3 => ?_)
            refine GT_nil ?_
            refine GE_inBlock ?_
            refine GE_slots (L' := [(6, _), (8, _), (10, _), (11, _), (29, _), (30, _), (31, _)]) ⟨rfl, rfl, rfl, rfl, rfl, rfl, rfl, trivial⟩ ?_
            rw [mixS_set htl ht1 h2] at hO3
            refine GE_plain (.st 0 (.st 1 (.ld 2 [] .nil))) rfl ?_
            refine GT_st rfl rfl rfl rfl (V_move rfl rfl) ?_
            refine GT_st rfl rfl rfl rfl (V_add rfl rfl rfl (wrap_i64 (by omega))) ?_
            refine GT_ldv rfl rfl rfl rfl rfl (V_assign rfl rfl) (GR_nil) ?_
            refine GT_nil ?_
            exact GE_to (ih2 (t + 1, I3) ⟨by dsimp only; omega, by dsimp only; omega, hO3⟩ (by dsimp only; omega)) ⟨rfl, rfl, rfl, rfl, rfl, rfl, rfl, trivial⟩ (HS.cons rfl (HS.cons rfl (HS.chunk HS.last)))
          · have het : (t : Int) = en p i := (by omega)
            refine GE_exit rfl ?_
            refine GE_inBlock ?_
            refine GE_slots (L' := [(6, _), (8, _), (29, _), (30, _), (31, _)]) ⟨rfl, rfl, rfl, rfl, rfl, trivial⟩ ?_
            refine GE_plain (.st 0 (.ld 1 [] .nil)) rfl ?_
            refine GT_st rfl rfl rfl rfl (V_add rfl rfl rfl (wrap_i64 (by omega))) ?_
            refine GT_ldv rfl rfl rfl rfl rfl (V_move rfl rfl) (GR_nil) ?_
            refine GT_nil ?_
            exact GE_to (ih (i + 1, I2) ⟨by dsimp only; omega, by rw [← mixS_end, ← het]; exact hO2⟩ (by dsimp only; omega)) ⟨rfl, rfl, rfl, rfl, rfl, trivial⟩ (HS.cons rfl (HS.chunk HS.last))
        · exact ⟨by dsimp only; omega, by dsimp only; omega, by dsimp only; rw [← hbn, mixS_begin]; exact hO⟩
      · obtain rfl : i = p.length := (by omega); rw [mixP_all] at hO
        refine GE_exit rfl ?_
        refine GE_seq ?_
        refine GE_seq ?_
        refine GE_slots (L' := [(8, _)]) ⟨rfl, trivial⟩ ?_
        refine GE_plain (.st 0 (.ld 1 [] (.st 2 .nil))) rfl ?_
        refine GT_st rfl rfl rfl rfl (V_move rfl rfl) ?_
        refine GT_call0 rfl rfl rfl rfl rfl rfl rfl rfl rn_217 (fun w hw => C_CheckSamplesN (s := rend l p) (mix_len p (vR l p)) (hO.rdH eSam_len hw)) (GR_nil) ?_
        refine GT_st rfl rfl rfl rfl (V_neq rfl rfl rfl) ?_
        refine GT_nil ?_
        first | refine GE_condNot rfl (fun h3 => ?_) (fun h3 => ?_) | refine GE_cond rfl (fun h3 => ?_) (fun h3 => ?_) | refine GE_condNotB rfl (fun h3 => ?_) (fun h3 => ?_) | refine GE_condB rfl (fun h3 => ?_) (fun h3 => ?_)
        · skip
          refine GE_seq ?_
          refine GE_slots (L' := []) trivial ?_
          refine GE_plain (.st 0 (.st 1 .nil)) rfl ?_
          refine GT_st rfl rfl rfl rfl (V_assign rfl rfl) ?_
          refine GT_st rfl rfl rfl rfl (V_assign rfl rfl) ?_
          refine GT_nil ?_
          refine GE_ret Tryz.func240 ⟨_, _, rfl, rfl, rfl⟩ (fun w hw => ?_)
          have e : rErr l p = 4 := (by rw [rErr, if_pos hg, if_neg h3]); have e2 : rendL l p = [] := if_neg (by omega); exact ⟨(none, 0, []), by dsimp only; rw [e2]; exact Own.nil, by dsimp only; rw [e, e2]; rfl, hw.nil⟩
        · skip
          refine GE_skip ?_
          refine GE_seq ?_
          refine GE_plain (.st 0 (.st 1 (.st 2 .nil))) rfl ?_
          refine GT_st rfl rfl rfl rfl (V_move rfl rfl) ?_
          refine GT_st rfl rfl rfl rfl (V_assign rfl rfl) ?_
          refine GT_st rfl rfl rfl rfl (V_assign rfl rfl) ?_
          refine GT_nil ?_
          refine GE_ret Tryz.func240 ⟨_, _, rfl, rfl, rfl⟩ (fun w hw => ?_)
          have e : rErr l p = 0 := (by rw [rErr, if_pos hg, if_pos h3]); have e2 : rendL l p = rend l p := if_pos e; exact ⟨(some ⟨b25, 0, none⟩, (fin p).toNat, I1), by dsimp only; rw [e2, hml]; exact hO, by dsimp only; rw [e, e2, hml], hw.chunk⟩
    · exact ⟨Nat.zero_le _, by rw [mixP_zero]; exact Own.made (x := (⟨0, 0⟩ : Sam)) rfl (by unfold maxLen; omega)⟩
  · have e : rErr l p = gErr l p := if_neg hg
    have e2 : rendL l p = [] := if_neg (by omega)
    refine Ret_of (vs := [_, _]) hm none' Tryz.func240 rfl Tryz.ntmps240 rfl ?_
    dsimp only [slotsOf]
    refine GE_seq ?_
    refine GE_plain (.st 0 (.st 1 .nil)) rfl ?_
    refine GT_st rfl rfl rfl rfl (V_assign rfl rfl) ?_
    refine GT_st rfl rfl rfl rfl (V_assign rfl rfl) ?_
    refine GT_nil ?_
    refine GE_seq ?_
    refine GE_plain (.st 0 (.st 1 (.ld 2 [] (.st 3 (.st 4 (.st 5 (.st 6 (.st 7 .nil)))))))) rfl ?_
    refine GT_st rfl rfl rfl rfl (V_move rfl rfl) ?_
    refine GT_st rfl rfl rfl rfl (V_move rfl rfl) ?_
    refine GT_call0 rfl rfl rfl rfl rfl rfl rfl rfl rn_150 (fun w hw => C_new_bad (h.sh hw) (hp.sh hw) hg) (GR_nil) ?_
    refine GT_st rfl rfl rfl rfl (V_move rfl rfl) ?_
    refine GT_st rfl rfl rfl rfl (V_extract rfl rfl rfl) ?_
    refine GT_st rfl rfl rfl rfl (V_extract rfl rfl rfl) ?_
    refine GT_st rfl rfl rfl rfl (V_assign rfl rfl) ?_
    refine GT_st rfl rfl rfl rfl (V_assign rfl rfl) ?_
    refine GT_nil ?_
    refine GE_seq ?_
    refine GE_seq ?_
    refine GE_slots (L' := [(6, _), (7, _)]) ⟨rfl, rfl, trivial⟩ ?_
    refine GE_plain (.st 0 (.st 1 .nil)) rfl ?_
    refine GT_st rfl rfl rfl rfl (V_move rfl rfl) ?_
    refine GT_st rfl rfl rfl rfl (V_isT (V_neq rfl rfl rfl) hg) ?_
    refine GT_nil ?_
    refine GE_cond_t rfl ?_
    refine GE_seq ?_
    refine GE_plain (.st 0 (.st 1 (.st 2 .nil))) rfl ?_
    refine GT_st rfl rfl rfl rfl (V_move rfl rfl) ?_
    refine GT_st rfl rfl rfl rfl (V_assign rfl rfl) ?_
    refine GT_st rfl rfl rfl rfl (V_assign rfl rfl) ?_
    refine GT_nil ?_
    refine GE_ret Tryz.func240 ⟨_, _, rfl, rfl, rfl⟩ (fun w hw => ?_)
    exact ⟨(none, 0, []), by dsimp only; rw [e2]; exact Own.nil, by dsimp only; rw [e, e2]; rfl, hw.nil⟩
end
end Go.Proofs.YtpbflnfcgcldkaaGreatDoor.Take
/- The works of chapter 03: the example of every layer. -/
namespace Go.Proofs.YtpbflnfcgcldkaaGreatDoor.Side
open Go.Sx Go.Proofs Go.RowKit
def wD : List Take.Sam := [⟨10, -10⟩, ⟨5, 0⟩]
def wL (a : Nat) : List Take.Tk := [⟨⟨#[97]⟩, some ⟨a, 0, none⟩, 2, wD⟩]
def wP : List Take.Prt := [⟨0, 0, 2, 0, 0, 0, 500⟩]
def wR : List Take.Sam := [⟨5, -5⟩, ⟨2, 0⟩]
theorem w_err (a : Nat) : Take.rErr (wL a) wP = 0 := by kernel_rfl
theorem w_rend (a : Nat) : Take.rendL (wL a) wP = wR := by kernel_rfl
section
variable {w : World} {A B : Option Addr} {c c2 : Nat}
theorem w_tks {w0 : World} {M : Nat → Prop} {H : Items} {y1 y3 : Nat} (m : SH w0 M H w) [HFind y1 H (blk ((wL y3).flatMap Take.eTk) 230)] [HFind y3 H (blk (wD.flatMap Take.eSam) 421)] : Take.Tks w (some ⟨y1, 0, none⟩) (wL y3) := by
  refine ⟨RdL.own' m Take.eTk_len, fun t ht => ?_⟩
  simp only [wL, List.mem_cons, List.not_mem_nil, or_false] at ht
  subst ht
  refine ⟨RdL.own' m Take.eSam_len, show 1 ≤ maxLen by decide, show 2 ≤ 2 by decide, fun s hs => ?_⟩
  simp only [wD, List.mem_cons, List.not_mem_nil, or_false] at hs
  rcases hs with rfl | rfl <;> exact ⟨by unfold Take.I64; decide, by unfold Take.I64; decide⟩
theorem C_RenderW {a : Nat} (h : Take.Tks w A (wL a)) (hp : RdL w 7 Take.ePrt B wP) : Con Tryz.prog 240 [.slice A 1 c, .slice B 1 c2] w (fun y : Option Addr × Nat × Items => Own 2 421 Take.eSam wR (.slice y.1 2 y.2.1) y.2.2)
    (fun y => .tuple #[.slice y.1 2 y.2.1, I 0]) (fun y => y.2.2) := by
  have h1 := Take.C_Render (c := c) (c2 := c2) h hp
  rw [w_err, w_rend] at h1
  exact h1
set_option maxRecDepth 20000 in
theorem C_works03 : Con0 Tryz.prog 175 [] w (.bool true) := by
  refine Ret_of (vs := []) hm none' Tryz.func175 rfl Tryz.ntmps175 rfl ?_
  dsimp only [slotsOf]
  refine GE_seq ?_
  refine GE_plain (.st 0 .nil) rfl ?_
  refine GT_st rfl rfl rfl rfl (V_assign rfl rfl) ?_
  refine GT_nil ?_
  refine GE_seq ?_
  refine GE_plain (.st 0 (.ld 1 [] (.ld 2 [] .nil))) rfl ?_
  refine GT_st rfl rfl rfl rfl (V_build (vs := [_, _, _, _, _, _, _]) rfl rfl zc_418 pl_418 sa_418 rfl) ?_
  refine GT_alloc rfl rfl rfl rfl rfl zc_418 (fun _ => GR_nil) (fun b1 => ?_)
  refine GT_store (vs := [_, _, _, _, _, _, _]) (l' := [_, _, _, _, _, _, _]) rfl rfl rfl rfl rfl rfl rfl sz_418 rfl rfl (Nat.le_of_ble_eq_true rfl) rfl (GR_nil) ?_
  refine GT_nil ?_
  refine GE_seq ?_
  refine GE_plain (.st 0 (.st 1 (.st 2 (.st 3 (.ld 4 [] (.ld 5 [] (.st 6 (.st 7 (.st 8 (.st 9 (.st 10 .nil))))))))))) rfl ?_
  refine GT_st rfl rfl rfl rfl (V_loadN (vs := [_, _, _, _, _, _, _]) rfl rfl ag_418 sz_418 rfl (CellsAt.item rfl)) ?_
  refine GT_st rfl rfl rfl rfl (V_build (vs := [_, _]) rfl rfl zc_421 pl_421 sa_421 rfl) ?_
  refine GT_st rfl rfl rfl rfl (V_build (vs := [_, _]) rfl rfl zc_421 pl_421 sa_421 rfl) ?_
  refine GT_st rfl rfl rfl rfl (V_build (vs := [_, _]) rfl rfl zc_421 pl_421 sa_421 rfl) ?_
  refine GT_buildSlice (z := [_, _, _, _, _, _]) rfl rfl rfl rfl rfl Tryz.underlying228 zc_421 sz_421 (by decide) rfl rfl (fun _ => GR_nil) (fun b16 => ?_)
  refine GT_call rfl rfl rfl rfl rfl rfl rfl rfl rn_237 (fun w hw => C_Cut (RdL.own' (l := smS) hw Take.eSam_len)) (fun _ _ => GR_nil) (fun y hy => ?_)
  refine GT_st rfl rfl rfl rfl (V_move rfl rfl) ?_
  refine GT_st rfl rfl rfl rfl (V_extract rfl rfl rfl) ?_
  refine GT_st rfl rfl rfl rfl (V_extract rfl rfl rfl) ?_
  refine GT_st rfl rfl rfl rfl (V_assign rfl rfl) ?_
  refine GT_st rfl rfl rfl rfl (V_assign rfl rfl) ?_
  refine GT_nil ?_
  refine GE_seq ?_
  refine GE_slots (L' := [(1, _), (2, _), (3, _)]) ⟨rfl, rfl, rfl, trivial⟩ ?_
  refine GE_plain (.st 0 (.st 1 (.ld 2 [] (.st 3 (.st 4 (.st 5 (.st 6 (.st 7 .nil)))))))) rfl ?_
  refine GT_st rfl rfl rfl rfl (V_loadN (vs := [_, _, _, _, _, _, _]) rfl rfl ag_418 sz_418 rfl (CellsAt.item rfl)) ?_
  refine GT_st rfl rfl rfl rfl (V_move rfl rfl) ?_
  refine GT_call0 rfl rfl rfl rfl rfl rfl rfl rfl rn_238 (fun w hw => C_Least (hy.rdH eP2_len hw)) (GR_nil) ?_
  refine GT_st rfl rfl rfl rfl (V_move rfl rfl) ?_
  refine GT_st rfl rfl rfl rfl (V_extract rfl rfl rfl) ?_
  refine GT_st rfl rfl rfl rfl (V_extract rfl rfl rfl) ?_
  refine GT_st rfl rfl rfl rfl (V_assign rfl rfl) ?_
  refine GT_st rfl rfl rfl rfl (V_assign rfl rfl) ?_
  refine GT_nil ?_
  refine GE_seq ?_
  refine GE_slots (L' := [(2, _), (3, _), (4, _), (5, _)]) ⟨rfl, rfl, rfl, rfl, trivial⟩ ?_
  refine GE_plain (.ld 0 [] (.ld 1 [] (.st 2 (.ld 3 [] (.ld 4 [] (.st 5 (.st 6 (.st 7 (.st 8 (.st 9 .nil)))))))))) rfl ?_
  refine GT_buildSlice (z := [_]) rfl rfl rfl rfl rfl Tryz.underlying43 zc_2 sz_2 (by decide) rfl rfl (fun _ => GR_nil) (fun b27 => ?_)
  refine GT_buildSlice (z := [_]) rfl rfl rfl rfl rfl Tryz.underlying43 zc_2 sz_2 (by decide) rfl rfl (fun _ => GR_nil) (fun b28 => ?_)
  refine GT_st rfl rfl rfl rfl (V_build (vs := [_, _, _]) rfl rfl zc_425 pl_425 sa_425 rfl) ?_
  refine GT_buildSlice (z := [_, _, _, _]) rfl rfl rfl rfl rfl Tryz.underlying43 zc_2 sz_2 (by decide) rfl rfl (fun _ => GR_nil) (fun b30 => ?_)
  refine GT_call rfl rfl rfl rfl rfl rfl rfl rfl rn_239 (fun w hw => C_Apply (RdL.own' (l := [64]) hw eN_len) (RdL.own' (l := [128]) hw eN_len) (RdL.own' (l := xsE) hw eN_len) rfl) (fun _ _ => GR_nil) (fun z hz => ?_)
  refine GT_st rfl rfl rfl rfl (V_move rfl rfl) ?_
  refine GT_st rfl rfl rfl rfl (V_extract rfl rfl rfl) ?_
  refine GT_st rfl rfl rfl rfl (V_extract rfl rfl rfl) ?_
  refine GT_st rfl rfl rfl rfl (V_assign rfl rfl) ?_
  refine GT_st rfl rfl rfl rfl (V_assign rfl rfl) ?_
  refine GT_nil ?_
  refine GE_seq ?_
  refine GE_slots (L' := [(2, _), (3, _), (4, _), (5, _), (6, _), (7, _)]) ⟨rfl, rfl, rfl, rfl, rfl, rfl, trivial⟩ ?_
  refine GE_plain (.st 0 (.st 1 (.ld 2 [] (.st 3 (.ld 4 [] (.st 5 (.ld 6 [] (.ld 7 [] (.st 8 (.st 9 (.st 10 (.st 11 (.st 12 .nil))))))))))))) rfl ?_
  refine GT_st rfl rfl rfl rfl (V_build (vs := [_, _]) rfl rfl zc_421 pl_421 sa_421 rfl) ?_
  refine GT_st rfl rfl rfl rfl (V_build (vs := [_, _]) rfl rfl zc_421 pl_421 sa_421 rfl) ?_
  refine GT_buildSlice (z := [_, _, _, _]) rfl rfl rfl rfl rfl Tryz.underlying228 zc_421 sz_421 (by decide) rfl rfl (fun _ => GR_nil) (fun b37 => ?_)
  refine GT_st rfl rfl rfl rfl (V_build (vs := [_, _]) rfl rfl zc_230 pl_230 sa_230 rfl) ?_
  refine GT_buildSlice (z := [_, _]) rfl rfl rfl rfl rfl Tryz.underlying107 zc_230 sz_230 (by decide) rfl rfl (fun _ => GR_nil) (fun b39 => ?_)
  refine GT_st rfl rfl rfl rfl (V_build (vs := [_, _, _, _, _, _, _]) rfl rfl zc_124 pl_124 sa_124 rfl) ?_
  refine GT_buildSlice (z := [_, _, _, _, _, _, _]) rfl rfl rfl rfl rfl Tryz.underlying108 zc_124 sz_124 (by decide) rfl rfl (fun _ => GR_nil) (fun b41 => ?_)
  refine GT_call rfl rfl rfl rfl rfl rfl rfl rfl rn_240 (fun w hw => C_RenderW (a := b37) (w_tks hw) (RdL.own' hw Take.ePrt_len)) (fun _ _ => GR_nil) (fun v hv => ?_)
  refine GT_st rfl rfl rfl rfl (V_move rfl rfl) ?_
  refine GT_st rfl rfl rfl rfl (V_extract rfl rfl rfl) ?_
  refine GT_st rfl rfl rfl rfl (V_extract rfl rfl rfl) ?_
  refine GT_st rfl rfl rfl rfl (V_assign rfl rfl) ?_
  refine GT_st rfl rfl rfl rfl (V_assign rfl rfl) ?_
  refine GT_nil ?_
  refine GE_seq ?_
  refine GE_slots (L' := [(2, _), (3, _), (4, _), (5, _), (6, _), (7, _), (8, _), (9, _)]) ⟨rfl, rfl, rfl, rfl, rfl, rfl, rfl, rfl, trivial⟩ ?_
  refine GE_plain (.st 0 (.st 1 (.st 2 (.st 3 (.st 4 (.st 5 (.st 6 (.st 7 (.st 8 (.st 9 (.st 10 (.st 11 (.st 12 (.st 13 (.st 14 (.st 15 (.st 16 (.st 17 (.st 18 (.st 19 (.st 20 (.st 21 (.st 22 (.st 23 (.st 24 (.st 25 (.st 26 (.st 27 (.st 28 (.st 29 (.st 30 (.st 31 (.st 32 (.st 33 (.st 34 (.st 35 (.st 36 (.st 37 (.st 38 (.st 39 (.st 40 (.st 41 (.st 42 (.st 43 (.st 44 (.st 45 (.st 46 (.st 47 (.st 48 (.st 49 (.st 50 (.st 51 (.st 52 (.st 53 .nil)))))))))))))))))))))))))))))))))))))))))))))))))))))) rfl ?_
  refine GT_st rfl rfl rfl rfl (V_move rfl rfl) ?_
  refine GT_st rfl rfl rfl rfl (V_isT (V_eql rfl rfl rfl) rfl) ?_
  refine GT_st rfl rfl rfl rfl (V_move rfl rfl) ?_
  refine GT_st_g rfl rfl rfl rfl rfl rfl rfl (V_move rfl rfl) ?_
  refine GT_st_g rfl rfl rfl rfl rfl rfl rfl (V_isT (V_eql rfl rfl rfl) rfl) ?_
  refine GT_st rfl rfl rfl rfl (V_pick_t rfl rfl rfl) ?_
  refine GT_st rfl rfl rfl rfl (V_move rfl rfl) ?_
  refine GT_st_g rfl rfl rfl rfl rfl rfl rfl (V_move rfl rfl) ?_
  refine GT_st_g rfl rfl rfl rfl rfl rfl rfl (V_isT (V_eql rfl rfl rfl) rfl) ?_
  refine GT_st rfl rfl rfl rfl (V_pick_t rfl rfl rfl) ?_
  refine GT_st rfl rfl rfl rfl (V_move rfl rfl) ?_
  refine GT_st_g rfl rfl rfl rfl rfl rfl rfl (V_move rfl rfl) ?_
  refine GT_st_g rfl rfl rfl rfl rfl rfl rfl (V_isT (V_eql rfl rfl rfl) rfl) ?_
  refine GT_st rfl rfl rfl rfl (V_pick_t rfl rfl rfl) ?_
  refine GT_st rfl rfl rfl rfl (V_move rfl rfl) ?_
  refine GT_st_g rfl rfl rfl rfl rfl rfl rfl (V_move rfl rfl) ?_
  refine GT_st_g rfl rfl rfl rfl rfl rfl rfl (V_len rfl Tryz.underlying255 rfl) ?_
  refine GT_st_g rfl rfl rfl rfl rfl rfl rfl (V_isT (V_eql rfl rfl rfl) rfl) ?_
  refine GT_st rfl rfl rfl rfl (V_pick_t rfl rfl rfl) ?_
  refine GT_st rfl rfl rfl rfl (V_move rfl rfl) ?_
  refine GT_st_g rfl rfl rfl rfl rfl rfl rfl (V_move rfl rfl) ?_
  refine GT_st_g rfl rfl rfl rfl rfl rfl rfl (V_index (k := 1) rfl rfl rfl Tryz.underlying255 sz_261 rfl (by decide) (hy.isSome (k := 1) (by decide))) ?_
  refine GT_st_g rfl rfl rfl rfl rfl rfl rfl (V_loadN (vs := [_, _]) rfl rfl ag_261 sz_261 rfl (CellsAt.ownE hy eP2_len (k := 1) (by decide) rfl)) ?_
  refine GT_st_g rfl rfl rfl rfl rfl rfl rfl (V_build (vs := [_, _]) rfl rfl zc_261 pl_261 sa_261 rfl) ?_
  refine GT_st_g rfl rfl rfl rfl rfl rfl rfl (V_isT (V_eqlInts (zs := [-200, 600]) (zs' := [-200, 600]) rfl rfl rfl is_261 rfl rfl) rfl) ?_
  refine GT_st rfl rfl rfl rfl (V_pick_t rfl rfl rfl) ?_
  refine GT_st rfl rfl rfl rfl (V_move rfl rfl) ?_
  refine GT_st_g rfl rfl rfl rfl rfl rfl rfl (V_move rfl rfl) ?_
  refine GT_st_g rfl rfl rfl rfl rfl rfl rfl (V_isT (V_eql rfl rfl rfl) rfl) ?_
  refine GT_st rfl rfl rfl rfl (V_pick_t rfl rfl rfl) ?_
  refine GT_st rfl rfl rfl rfl (V_move rfl rfl) ?_
  refine GT_st_g rfl rfl rfl rfl rfl rfl rfl (V_move rfl rfl) ?_
  refine GT_st_g rfl rfl rfl rfl rfl rfl rfl (V_len rfl Tryz.underlying43 rfl) ?_
  refine GT_st_g rfl rfl rfl rfl rfl rfl rfl (V_isT (V_eql rfl rfl rfl) rfl) ?_
  refine GT_st rfl rfl rfl rfl (V_pick_t rfl rfl rfl) ?_
  refine GT_st rfl rfl rfl rfl (V_move rfl rfl) ?_
  refine GT_st_g rfl rfl rfl rfl rfl rfl rfl (V_move rfl rfl) ?_
  refine GT_st_g rfl rfl rfl rfl rfl rfl rfl (V_index (k := 1) rfl rfl rfl Tryz.underlying43 sz_2 rfl (by decide) (hz.isSome (k := 1) (by decide))) ?_
  refine GT_st_g rfl rfl rfl rfl rfl rfl rfl (V_load rfl rfl ag_2 (CellAt.own0 hz eN_len (k := 1) (by decide) rfl)) ?_
  refine GT_st_g rfl rfl rfl rfl rfl rfl rfl (V_isT (V_eql rfl rfl rfl) rfl) ?_
  refine GT_st rfl rfl rfl rfl (V_pick_t rfl rfl rfl) ?_
  refine GT_st rfl rfl rfl rfl (V_move rfl rfl) ?_
  refine GT_st_g rfl rfl rfl rfl rfl rfl rfl (V_move rfl rfl) ?_
  refine GT_st_g rfl rfl rfl rfl rfl rfl rfl (V_len rfl Tryz.underlying228 rfl) ?_
  refine GT_st_g rfl rfl rfl rfl rfl rfl rfl (V_isT (V_eql rfl rfl rfl) rfl) ?_
  refine GT_st rfl rfl rfl rfl (V_pick_t rfl rfl rfl) ?_
  refine GT_st rfl rfl rfl rfl (V_move rfl rfl) ?_
  refine GT_st_g rfl rfl rfl rfl rfl rfl rfl (V_move rfl rfl) ?_
  refine GT_st_g rfl rfl rfl rfl rfl rfl rfl (V_index (k := 0) rfl rfl rfl Tryz.underlying228 sz_421 rfl (by decide) (hv.isSome (k := 0) (by decide))) ?_
  refine GT_st_g rfl rfl rfl rfl rfl rfl rfl (V_loadN (vs := [_, _]) rfl rfl ag_421 sz_421 rfl (CellsAt.ownE hv Take.eSam_len (k := 0) (by decide) rfl)) ?_
  refine GT_st_g rfl rfl rfl rfl rfl rfl rfl (V_build (vs := [_, _]) rfl rfl zc_421 pl_421 sa_421 rfl) ?_
  refine GT_st_g rfl rfl rfl rfl rfl rfl rfl (V_isT (V_eqlInts (zs := [5, -5]) (zs' := [5, -5]) rfl rfl rfl is_421 rfl rfl) rfl) ?_
  refine GT_st rfl rfl rfl rfl (V_pick_t rfl rfl rfl) ?_
  refine GT_st rfl rfl rfl rfl (V_assign rfl rfl) ?_
  refine GT_nil ?_
  refine GE_ret Tryz.func175 rfl (fun w hw => ⟨?_, hw.nil⟩)
  rfl
end
end Go.Proofs.YtpbflnfcgcldkaaGreatDoor.Side
/- The example of layer 4, walked. -/
namespace Go.Proofs.YtpbflnfcgcldkaaGreatDoor.Side
open Go.Sx Go.Proofs Go.RowKit
def ts4 : List Trk := [⟨95, 20, 500⟩, ⟨30, 40, 800⟩, ⟨41, 10, 0⟩]
def f4 : Fmt := ⟨⟨#[102]⟩, 1000, 400, 10, 20, 10, 30, 5⟩
theorem nm_f4 : (1 ≤ (⟨#[102]⟩ : ByteArray).size ∧ (⟨#[102]⟩ : ByteArray).size ≤ 20) ∧ ∀ i, i < (⟨#[102]⟩ : ByteArray).size → 97 ≤ ((byz ⟨#[102]⟩).getD i default).toNat ∧ ((byz ⟨#[102]⟩).getD i default).toNat ≤ 122 := by
  refine ⟨by decide, fun i hi => ?_⟩
  obtain rfl : i = 0 := by
    have : (⟨#[102]⟩ : ByteArray).size = 1 := rfl
    omega
  decide
theorem f4_ok : f4.Ok := ⟨nm_f4, by decide, by decide, by decide, by decide, by decide, by decide, by decide⟩
theorem ts4_ok : ∀ t ∈ ts4, t.Ok := fun t ht => by
  simp only [ts4, List.mem_cons, List.not_mem_nil, or_false] at ht
  rcases ht with rfl | rfl | rfl <;> exact ⟨by decide, by decide, by decide⟩
theorem srt4 : srq (usl ts4) [0, 1, 2] (([0, 1, 2] : List Int).length - 1) = [1, 0, 2] := by kernel_rfl
theorem od4 : OdOk ts4 [1, 0, 2] := ⟨by decide, by decide⟩
theorem lay4 : LayOk f4 ts4 [1, 0, 2] := by
  refine ⟨fun k hk => ?_, by decide⟩
  rcases (show k = 0 ∨ k = 1 ∨ k = 2 by have : k < 3 := hk; omega) with rfl | rfl | rfl <;> decide
section
variable {w w0 : World} {A A2 : Option Addr} {c c2 g : Nat} {G I0 : Items}
theorem C_Len64_3 : Con0 Tryz.prog 250 [.int .u64 3] w (I 2) := by
  refine Ret_of (vs := [_]) hm none' Tryz.func250 rfl Tryz.ntmps250 rfl ?_
  dsimp only [slotsOf]
  refine GE_seq ?_
  refine GE_plain (.st 0 .nil) rfl ?_
  refine GT_st rfl rfl rfl rfl (V_assign rfl rfl) ?_
  refine GT_nil ?_
  refine GE_seq ?_
  refine GE_seq ?_
  refine GE_plain (.st 0 (.st 1 .nil)) rfl ?_
  refine GT_st rfl rfl rfl rfl (V_move rfl rfl) ?_
  refine GT_st rfl rfl rfl rfl (V_isF (V_geq rfl rfl rfl) (by decide)) ?_
  refine GT_nil ?_
  refine GE_cond_f rfl ?_
  refine GE_skip ?_
  refine GE_seq ?_
  refine GE_seq ?_
  refine GE_plain (.st 0 (.st 1 .nil)) rfl ?_
  refine GT_st rfl rfl rfl rfl (V_move rfl rfl) ?_
  refine GT_st rfl rfl rfl rfl (V_isF (V_geq rfl rfl rfl) (by decide)) ?_
  refine GT_nil ?_
  refine GE_cond_f rfl ?_
  refine GE_skip ?_
  refine GE_seq ?_
  refine GE_seq ?_
  refine GE_slots (L' := [(0, _), (2, _)]) ⟨rfl, rfl, trivial⟩ ?_
  refine GE_plain (.st 0 (.st 1 .nil)) rfl ?_
  refine GT_st rfl rfl rfl rfl (V_move rfl rfl) ?_
  refine GT_st rfl rfl rfl rfl (V_isF (V_geq rfl rfl rfl) (by decide)) ?_
  refine GT_nil ?_
  refine GE_cond_f rfl ?_
  refine GE_skip ?_
  refine GE_seq ?_
  refine GE_plain (.st 0 (.st 1 (.st 2 (.st 3 (.st 4 (.st 5 (.ld 6 [] .nil))))))) rfl ?_
  refine GT_st rfl rfl rfl rfl (V_move rfl rfl) ?_
  refine GT_st rfl rfl rfl rfl (V_move rfl rfl) ?_
  refine GT_st rfl rfl rfl rfl (V_convII rfl rfl (by rw [Tryz.underlying389]; rfl) Tryz.underlying5 (wrap_u8 (by omega))) ?_
  refine GT_st rfl rfl rfl rfl (opv_eq (v' := .int .u8 2) (V_indexStr (k := 3) rfl rfl rfl Tryz.underlying9 rfl (by decide +kernel)) (by kernel_rfl)) ?_
  refine GT_st rfl rfl rfl rfl (V_convII rfl rfl (by rw [Tryz.underlying5]; rfl) Tryz.underlying3 (wrap_i64 (by omega))) ?_
  refine GT_st rfl rfl rfl rfl (V_add rfl rfl rfl (wrap_i64 (by omega))) ?_
  refine GT_ldv rfl rfl rfl rfl rfl (V_assign rfl rfl) (GR_nil) ?_
  refine GT_nil ?_
  refine GE_ret Tryz.func250 rfl (fun w hw => ⟨?_, hw.nil⟩)
  rfl
theorem C_Len_3 : Con0 Tryz.prog 343 [.int .u64 3] w (I 2) := by
  refine Ret_of (vs := [_]) hm none' Tryz.func343 rfl Tryz.ntmps343 rfl ?_
  dsimp only [slotsOf]
  refine GE_seq ?_
  refine GE_plain (.st 0 .nil) rfl ?_
  refine GT_st rfl rfl rfl rfl (V_assign rfl rfl) ?_
  refine GT_nil ?_
  refine GE_seq ?_
  refine GE_cond_f rfl ?_
  refine GE_skip ?_
  refine GE_seq ?_
  refine GE_plain (.st 0 (.ld 1 [] (.st 2 .nil))) rfl ?_
  refine GT_st rfl rfl rfl rfl (V_move rfl rfl) ?_
  refine GT_call0 rfl rfl rfl rfl rfl rfl rfl rfl rn_250 (fun w hw => C_Len64_3) (GR_nil) ?_
  refine GT_st rfl rfl rfl rfl (V_assign rfl rfl) ?_
  refine GT_nil ?_
  refine GE_ret Tryz.func343 rfl (fun w hw => ⟨?_, hw.nil⟩)
  rfl
abbrev usV (g : Nat) : Value := .func (.func 321) #[ptr g 0] #[]
theorem C_pdq4 (hb : BlkAt w0 g (plC f4 A 3 c) 304) (h : RdL w0 3 eTrk A ts4) (hO : Own 1 3 eN [0, 1, 2] (.slice A2 3 c2) I0) (m : SH w0 none' (I0 ++ G) w) :
    Ret Tryz.prog 342 [.slice A2 3 c2, I 0, I 3, I 2, usV g].toArray w fun v w' => ∃ I', Own 1 3 eN [1, 0, 2] (.slice A2 3 c2) I' ∧ v = .tuple #[] ∧ SH w0 none' (I' ++ G) w' := by
  refine Ret_ofH (vs := [_, _, _, _, _]) hm none' Tryz.func342 rfl Tryz.ntmps342 rfl m ?_
  dsimp only [slotsOf]
  refine GE_seq ?_
  refine GE_plain (.st 0 .nil) rfl ?_
  refine GT_st rfl rfl rfl rfl (V_assign rfl rfl) ?_
  refine GT_nil ?_
  refine GE_seq ?_
  refine GE_plain (.st 0 .nil) rfl ?_
  refine GT_st rfl rfl rfl rfl (V_assign rfl rfl) ?_
  refine GT_nil ?_
  refine GE_block ?_
  refine GE_to (GE_loop (ι := Unit) (fun _z => 0) (fun _z => [(0, .slice A2 3 c2), (1, I 0), (2, I 3), (3, I 2), (4, usV g), (10, .bool true), (11, .bool true)]) (fun _z => I0 ++ G) (fun _z => True) ?_ () ?_) ⟨rfl, rfl, rfl, rfl, rfl, rfl, rfl, trivial⟩ (HS.chunk HS.last)
  · rintro _ _ ih
    refine GE_block ?_
    refine GE_seq ?_
    refine GE_plain (.st 0 (.st 1 (.st 2 (.st 3 .nil)))) rfl ?_
    refine GT_st rfl rfl rfl rfl (V_move rfl rfl) ?_
    refine GT_st rfl rfl rfl rfl (V_move rfl rfl) ?_
    refine GT_st rfl rfl rfl rfl (V_sub rfl rfl rfl (wrap_i64 (by omega))) ?_
    refine GT_st rfl rfl rfl rfl (V_assign rfl rfl) ?_
    refine GT_nil ?_
    refine GE_seq ?_
    refine GE_seq ?_
    refine GE_plain (.st 0 (.st 1 .nil)) rfl ?_
    refine GT_st rfl rfl rfl rfl (V_move rfl rfl) ?_
    refine GT_st rfl rfl rfl rfl (V_isT (V_leq rfl rfl rfl) (by decide)) ?_
    refine GT_nil ?_
    refine GE_cond_t rfl ?_
    refine GE_seq ?_
    refine GE_slots (L' := [(0, _), (1, _), (2, _), (4, _)]) ⟨rfl, rfl, rfl, rfl, trivial⟩ ?_
    refine GE_plain (.st 0 (.st 1 (.st 2 (.st 3 (.ld 4 [] .nil))))) rfl ?_
    refine GT_st rfl rfl rfl rfl (V_move rfl rfl) ?_
    refine GT_st rfl rfl rfl rfl (V_move rfl rfl) ?_
    refine GT_st rfl rfl rfl rfl (V_move rfl rfl) ?_
    refine GT_st rfl rfl rfl rfl (V_move rfl rfl) ?_
    refine GT_callX (p := fun I' : Items => Own 1 3 eN [1, 0, 2] (.slice A2 3 c2) I') (V := fun _ => .tuple #[]) (H' := fun I' => I' ++ G) rfl rfl rfl rfl rfl rfl rfl rfl rn_356 (fun w hw => by have := C_insC (l := [0, 1, 2]) (cmp := usl ts4) (g := g) (fi := 321) rn_321 (fun w' H m' x hx y hy => C_usual (f := f4) (c := c) (n := 3) rfl (hb.sh m') (h.sh m') (by simp only [List.mem_cons, List.not_mem_nil, or_false] at hx; show 0 ≤ x ∧ x < 3; omega) (by simp only [List.mem_cons, List.not_mem_nil, or_false] at hy; show 0 ≤ y ∧ y < 3; omega)) ⟨by decide, by decide⟩ hO hw; rw [srt4] at this; exact this) (fun _ _ => GR_nil) (fun I1 hO1 => ?_)
    refine GT_nil ?_
    refine GE_ret Tryz.func342 rfl (fun w hw => ⟨I1, hO1, rfl, hw⟩)
    skip
  · exact trivial
theorem C_Sort4 (hb : BlkAt w0 g (plC f4 A 3 c) 304) (h : RdL w0 3 eTrk A ts4) (hO : Own 1 3 eN [0, 1, 2] (.slice A2 3 c2) I0) (m : SH w0 none' (I0 ++ G) w) :
    Ret Tryz.prog 320 [.slice A2 3 c2, usV g].toArray w fun v w' => ∃ I', Own 1 3 eN [1, 0, 2] (.slice A2 3 c2) I' ∧ v = .tuple #[] ∧ SH w0 none' (I' ++ G) w' := by
  refine Ret_ofH (vs := [_, _]) hm none' Tryz.func320 rfl Tryz.ntmps320 rfl m ?_
  dsimp only [slotsOf]
  refine GE_seq ?_
  refine GE_plain (.st 0 (.st 1 (.st 2 .nil))) rfl ?_
  refine GT_st rfl rfl rfl rfl (V_move rfl rfl) ?_
  refine GT_st rfl rfl rfl rfl (V_len rfl Tryz.underlying38 rfl) ?_
  refine GT_st rfl rfl rfl rfl (V_assign rfl rfl) ?_
  refine GT_nil ?_
  refine GE_plain (.st 0 (.st 1 (.st 2 (.st 3 (.ld 4 [] (.st 5 (.ld 6 [] .nil))))))) rfl ?_
  refine GT_st rfl rfl rfl rfl (V_move rfl rfl) ?_
  refine GT_st rfl rfl rfl rfl (V_move rfl rfl) ?_
  refine GT_st rfl rfl rfl rfl (V_move rfl rfl) ?_
  refine GT_st rfl rfl rfl rfl (V_convII rfl rfl (by rw [Tryz.underlying3]; rfl) Tryz.underlying360 (wrap_u64 (by omega))) ?_
  refine GT_call0 rfl rfl rfl rfl rfl rfl rfl rfl rn_343 (fun w hw => C_Len_3) (GR_nil) ?_
  refine GT_st rfl rfl rfl rfl (V_move rfl rfl) ?_
  refine GT_callX (p := fun I' : Items => Own 1 3 eN [1, 0, 2] (.slice A2 3 c2) I') (V := fun _ => .tuple #[]) (H' := fun I' => I' ++ G) rfl rfl rfl rfl rfl rfl rfl rfl rn_342 (fun w hw => C_pdq4 hb h hO hw) (fun _ _ => GR_nil) (fun I1 hO1 => ?_)
  refine GT_nil ?_
  refine GE_end Tryz.func320 rfl (fun w hw => ⟨I1, hO1, rfl, hw⟩)
  skip
theorem C_order4 (hb : BlkAt w g (plC f4 A 3 c) 304) (h : RdL w 3 eTrk A ts4) (hr : RdL w 1 eN A2 [0, 1, 2]) (hA : A2.isSome = true) : Con Tryz.prog 287 [ptr g 0, .slice A2 3 c2] w (fun y : Option Addr × Nat × Items => Own 1 3 eN [1, 0, 2] (.slice y.1 3 y.2.1) y.2.2) (fun y => .slice y.1 3 y.2.1) (fun y => y.2.2) := by
  refine Ret_of (vs := [_, _]) hm none' Tryz.func287 rfl Tryz.ntmps287 rfl ?_
  dsimp only [slotsOf]
  refine GE_seq ?_
  refine GE_plain (.st 0 .nil) rfl ?_
  refine GT_st rfl rfl rfl rfl (V_assign rfl rfl) ?_
  refine GT_nil ?_
  refine GE_seq ?_
  refine GE_plain (.st 0 (.ld 1 [] (.ld 2 [] .nil))) rfl ?_
  refine GT_st rfl rfl rfl rfl (V_move rfl rfl) ?_
  refine GT_call rfl rfl rfl rfl rfl rfl rfl rfl rn_90 (fun w hw => C_CloneI (l := [0, 1, 2]) (hr.sh hw) hA (show 3 ≤ 100000 by omega)) (fun _ _ => GR_nil) (fun y hy => ?_)
  refine GT_ldv rfl rfl rfl rfl rfl (V_assign rfl rfl) (GR_nil) ?_
  refine GT_nil ?_
  refine GE_seq ?_
  refine GE_plain (.st 0 (.st 1 (.st 2 (.ld 3 [] .nil)))) rfl ?_
  refine GT_st rfl rfl rfl rfl (V_move rfl rfl) ?_
  refine GT_st rfl rfl rfl rfl (V_move rfl rfl) ?_
  refine GT_st rfl rfl rfl rfl (V_makeFunc rfl rfl rfl) ?_
  refine GT_callX (p := fun I' : Items => Own 1 3 eN [1, 0, 2] (.slice y.1 3 y.2.1) I') (V := fun _ => .tuple #[]) (H' := fun I' => I' ++ []) rfl rfl rfl rfl rfl rfl rfl rfl rn_320 (fun w hw => C_Sort4 hb h hy hw) (fun _ _ => GR_nil) (fun I1 hO1 => ?_)
  refine GT_nil ?_
  refine GE_seq ?_
  refine GE_slots (L' := [(1, _)]) ⟨rfl, trivial⟩ ?_
  refine GE_plain (.st 0 (.st 1 .nil)) rfl ?_
  refine GT_st rfl rfl rfl rfl (V_move rfl rfl) ?_
  refine GT_st rfl rfl rfl rfl (V_assign rfl rfl) ?_
  refine GT_nil ?_
  refine GE_ret Tryz.func287 rfl (fun w hw => ?_)
  exact ⟨(y.1, y.2.1, I1), hO1, rfl, hw.hs (C := cx Tryz.prog hm 0 0 _ none' fun _ _ => True) HS.last⟩
theorem C_all4 (hb : BlkAt w g (plC f4 A 3 c) 304) (h : RdL w 3 eTrk A ts4) : Con Tryz.prog 245 [ptr g 0] w (fun y : Option Addr × Nat × Items => Own 1 3 eN [1, 0, 2] (.slice y.1 3 y.2.1) y.2.2) (fun y => .slice y.1 3 y.2.1) (fun y => y.2.2) := by
  refine Ret_of (vs := [_]) hm none' Tryz.func245 rfl Tryz.ntmps245 rfl ?_
  dsimp only [slotsOf]
  refine GE_seq ?_
  refine GE_plain (.st 0 .nil) rfl ?_
  refine GT_st rfl rfl rfl rfl (V_assign rfl rfl) ?_
  refine GT_nil ?_
  refine GE_seq ?_
  refine GE_plain (.st 0 (.st 1 (.st 2 (.st 3 (.st 4 (.st 5 (.ld 6 [] (.ld 7 [] (.st 8 .nil))))))))) rfl ?_
  refine GT_st rfl rfl rfl rfl (V_move rfl rfl) ?_
  refine GT_st rfl rfl rfl rfl (V_move rfl rfl) ?_
  first | refine GT_st rfl rfl rfl rfl (V_nilCheck rfl rfl) ?_ | refine GT_st rfl rfl rfl rfl (V_nilCheck_func rfl rfl) ?_ | refine GT_st rfl rfl rfl rfl (V_nilCheck_yield rfl rfl) ?_
  first | refine GT_st rfl rfl rfl rfl (V_field rfl rfl fo_304_1) ?_ | refine GT_st rfl rfl rfl rfl (V_fieldA rfl rfl fo_304_1) ?_
  first | refine GT_st rfl rfl rfl rfl (V_load rfl rfl ag_95 (CellAt.item rfl)) ?_ | refine GT_st rfl rfl rfl rfl (V_load rfl rfl ag_95 (CellAt.old (hb.cell rfl) (noM _))) ?_
  refine GT_st rfl rfl rfl rfl (V_len rfl Tryz.underlying95 rfl) ?_
  refine GT_call rfl rfl rfl rfl rfl rfl rfl rfl rn_205 (fun w hw => C_span (i := 0) (n := 3) (by decide)) (fun _ _ => GR_nil) (fun x hx => ?_)
  refine GT_call rfl rfl rfl rfl rfl rfl rfl rfl rn_287 (fun w hw => C_order4 (c := c) (hb.sh hw) (h.sh hw) (hx.rdH (l := [0, 1, 2]) eN_len hw) (hx.isSome (k := 0) (by decide))) (fun _ _ => GR_nil) (fun y hy => ?_)
  refine GT_st rfl rfl rfl rfl (V_assign rfl rfl) ?_
  refine GT_nil ?_
  refine GE_ret Tryz.func245 rfl (fun w hw => ?_)
  exact ⟨y, hy, rfl, hw.hs (C := cx Tryz.prog hm 0 0 _ none' fun _ _ => True) (HS.last (I := y.2.2))⟩
theorem C_Arrange4 (h : RdL w 3 eTrk A ts4) : Con Tryz.prog 194 [f4.val, .slice A 3 c] w (fun y : Option Addr × Nat × Items => Own 1 3 eN [1, 0, 2] (.slice y.1 3 y.2.1) y.2.2) (fun y => .tuple #[.slice y.1 3 y.2.1, I 0]) (fun y => y.2.2) := by
  refine Ret_of (vs := [_, _]) hm none' Tryz.func194 rfl Tryz.ntmps194 rfl ?_
  dsimp only [slotsOf]
  refine GE_seq ?_
  refine GE_plain (.ld 0 [] (.st 1 (.st 2 .nil))) rfl ?_
  refine GT_box (z := [_, _, _, _, _, _, _, _]) rfl rfl rfl rfl rfl rfl rfl (fun _ => GR_nil) (fun b2 => ?_)
  refine GT_st rfl rfl rfl rfl (V_assign rfl rfl) ?_
  refine GT_st rfl rfl rfl rfl (V_assign rfl rfl) ?_
  refine GT_nil ?_
  refine GE_seq ?_
  refine GE_plain (.st 0 (.st 1 (.ld 2 [] (.st 3 (.st 4 (.st 5 (.st 6 (.st 7 .nil)))))))) rfl ?_
  refine GT_st rfl rfl rfl rfl (V_loadN (vs := [_, _, _, _, _, _, _, _]) rfl rfl ag_77 sz_77 rfl (CellsAt.item rfl)) ?_
  refine GT_st rfl rfl rfl rfl (V_move rfl rfl) ?_
  refine GT_call rfl rfl rfl rfl rfl rfl rfl rfl rn_235 (fun w hw => C_open (l := ts4) f4_ok (h.sh hw) (by decide) ts4_ok) (fun _ _ => GR_nil) (fun b _ => ?_)
  refine GT_st rfl rfl rfl rfl (V_move rfl rfl) ?_
  refine GT_st rfl rfl rfl rfl (V_extract rfl rfl rfl) ?_
  refine GT_st rfl rfl rfl rfl (V_extract rfl rfl rfl) ?_
  refine GT_st rfl rfl rfl rfl (V_assign rfl rfl) ?_
  refine GT_st rfl rfl rfl rfl (V_assign rfl rfl) ?_
  refine GT_nil ?_
  refine GE_seq ?_
  refine GE_seq ?_
  refine GE_slots (L' := [(6, _), (7, _)]) ⟨rfl, rfl, trivial⟩ ?_
  refine GE_plain (.st 0 (.st 1 .nil)) rfl ?_
  refine GT_st rfl rfl rfl rfl (V_move rfl rfl) ?_
  refine GT_st rfl rfl rfl rfl (V_isF (V_neq rfl rfl rfl) (fun q => q rfl)) ?_
  refine GT_nil ?_
  refine GE_cond_f rfl ?_
  refine GE_skip ?_
  refine GE_seq ?_
  refine GE_seq ?_
  refine GE_plain (.st 0 (.ld 1 [] (.st 2 .nil))) rfl ?_
  refine GT_st rfl rfl rfl rfl (V_move rfl rfl) ?_
  refine GT_call rfl rfl rfl rfl rfl rfl rfl rfl rn_245 (fun w hw => C_all4 (c := c) (BlkAt.of hw) (h.sh hw)) (fun _ _ => GR_nil) (fun y hy => ?_)
  refine GT_st rfl rfl rfl rfl (V_assign rfl rfl) ?_
  refine GT_nil ?_
  refine GE_seq ?_
  refine GE_slots (L' := [(6, _), (8, _)]) ⟨rfl, rfl, trivial⟩ ?_
  refine GE_plain (.st 0 (.st 1 (.ld 2 [] .nil))) rfl ?_
  refine GT_st rfl rfl rfl rfl (V_move rfl rfl) ?_
  refine GT_st rfl rfl rfl rfl (V_move rfl rfl) ?_
  refine GT_call rfl rfl rfl rfl rfl rfl rfl rfl rn_204 (fun w hw => C_possibleG (f := f4) (ts := ts4) (od := [1, 0, 2]) (c := c) (c2 := y.2.1) f4_ok ts4_ok (BlkAt.of hw) (h.sh hw) (hy.rdH eN_len hw) od4) (fun _ _ => GR_nil) (fun bb hbb => ?_)
  obtain rfl := hbb.2 lay4
  refine GT_nil ?_
  refine GE_cond_t rfl ?_
  refine GE_seq ?_
  refine GE_slots (L' := [(8, _)]) ⟨rfl, trivial⟩ ?_
  refine GE_plain (.st 0 (.st 1 (.st 2 .nil))) rfl ?_
  refine GT_st rfl rfl rfl rfl (V_move rfl rfl) ?_
  refine GT_st rfl rfl rfl rfl (V_assign rfl rfl) ?_
  refine GT_st rfl rfl rfl rfl (V_assign rfl rfl) ?_
  refine GT_nil ?_
  refine GE_ret Tryz.func194 ⟨_, _, rfl, rfl, rfl⟩ (fun w hw => ?_)
  exact ⟨y, hy, rfl, hw.hs (C := cx Tryz.prog hm 0 0 _ none' fun _ _ => True) (HS.last (I := y.2.2))⟩
set_option maxRecDepth 20000 in
theorem C_works04 : Con0 Tryz.prog 133 [] w (.bool true) := by
  refine Ret_of (vs := []) hm none' Tryz.func133 rfl Tryz.ntmps133 rfl ?_
  dsimp only [slotsOf]
  refine GE_seq ?_
  refine GE_plain (.st 0 .nil) rfl ?_
  refine GT_st rfl rfl rfl rfl (V_assign rfl rfl) ?_
  refine GT_nil ?_
  refine GE_seq ?_
  refine GE_plain (.st 0 (.ld 1 [] (.ld 2 [] .nil))) rfl ?_
  refine GT_st rfl rfl rfl rfl (V_build (vs := [_, _, _, _, _, _, _, _]) rfl rfl zc_77 pl_77 sa_77 rfl) ?_
  refine GT_alloc rfl rfl rfl rfl rfl zc_77 (fun _ => GR_nil) (fun b1 => ?_)
  refine GT_store (vs := [_, _, _, _, _, _, _, _]) (l' := [_, _, _, _, _, _, _, _]) rfl rfl rfl rfl rfl rfl rfl sz_77 rfl rfl (Nat.le_of_ble_eq_true rfl) rfl (GR_nil) ?_
  refine GT_nil ?_
  refine GE_seq ?_
  refine GE_plain (.st 0 (.st 1 (.st 2 (.ld 3 [] (.st 4 .nil))))) rfl ?_
  refine GT_st rfl rfl rfl rfl (V_build (vs := [_, _, _]) rfl rfl zc_301 pl_301 sa_301 rfl) ?_
  refine GT_st rfl rfl rfl rfl (V_build (vs := [_, _, _]) rfl rfl zc_301 pl_301 sa_301 rfl) ?_
  refine GT_st rfl rfl rfl rfl (V_build (vs := [_, _, _]) rfl rfl zc_301 pl_301 sa_301 rfl) ?_
  refine GT_buildSlice (z := [_, _, _, _, _, _, _, _, _]) rfl rfl rfl rfl rfl Tryz.underlying95 zc_301 sz_301 (by decide) rfl rfl (fun _ => GR_nil) (fun b11 => ?_)
  refine GT_st rfl rfl rfl rfl (V_assign rfl rfl) ?_
  refine GT_nil ?_
  refine GE_seq ?_
  refine GE_slots (L' := [(1, _), (2, _)]) ⟨rfl, rfl, trivial⟩ ?_
  refine GE_plain (.st 0 (.st 1 (.ld 2 [] (.st 3 (.st 4 (.st 5 (.st 6 (.st 7 .nil)))))))) rfl ?_
  refine GT_st rfl rfl rfl rfl (V_loadN (vs := [_, _, _, _, _, _, _, _]) rfl rfl ag_77 sz_77 rfl (CellsAt.item rfl)) ?_
  refine GT_st rfl rfl rfl rfl (V_move rfl rfl) ?_
  refine GT_call rfl rfl rfl rfl rfl rfl rfl rfl rn_194 (fun w hw => C_Arrange4 (RdL.own' (l := ts4) hw (fun x => rfl))) (fun _ _ => GR_nil) (fun y hy => ?_)
  refine GT_st rfl rfl rfl rfl (V_move rfl rfl) ?_
  refine GT_st rfl rfl rfl rfl (V_extract rfl rfl rfl) ?_
  refine GT_st rfl rfl rfl rfl (V_extract rfl rfl rfl) ?_
  refine GT_st rfl rfl rfl rfl (V_assign rfl rfl) ?_
  refine GT_st rfl rfl rfl rfl (V_assign rfl rfl) ?_
  refine GT_nil ?_
  refine GE_seq ?_
  refine GE_slots (L' := [(1, _), (2, _), (3, _), (4, _)]) ⟨rfl, rfl, rfl, rfl, trivial⟩ ?_
  refine GE_drawn (.st 0 (.st 1 (.st 2 (.st 3 (.ld 4 [] (.st 5 (.st 6 (.st 7 (.st 8 (.st 9 .nil)))))))))) [4] (by decide +kernel) ?_
  refine GT_st rfl rfl rfl rfl (V_loadN (vs := [_, _, _, _, _, _, _, _]) rfl rfl ag_77 sz_77 rfl (CellsAt.item rfl)) ?_
  refine GT_st rfl rfl rfl rfl (V_move rfl rfl) ?_
  refine GT_st rfl rfl rfl rfl (V_index (k := 0) rfl rfl rfl Tryz.underlying95 sz_301 rfl (by decide) rfl) ?_
  refine GT_st rfl rfl rfl rfl (V_loadN (vs := [_, _, _]) rfl rfl ag_301 sz_301 rfl (show CellsAt _ _ _ (eTrk ⟨95, 20, 500⟩) from CellsAt.row (α := Trk) (sz := 3) (enc := eTrk) (l := ts4) (k := 0) (fun x => rfl) (by decide) rfl)) ?_
  refine GT_call0 rfl rfl rfl rfl rfl rfl rfl rfl rn_174 (fun w hw => C_Width (f := f4) (t := ⟨95, 20, 500⟩) f4_ok ⟨by decide, by decide, by decide⟩) (GR_nil) ?_
  refine GT_st rfl rfl rfl rfl (V_move rfl rfl) ?_
  refine GT_st rfl rfl rfl rfl (V_extract rfl rfl rfl) ?_
  refine GT_st rfl rfl rfl rfl (V_extract rfl rfl rfl) ?_
  refine GT_st rfl rfl rfl rfl (V_assign rfl rfl) ?_
  refine GT_st rfl rfl rfl rfl (V_assign rfl rfl) ?_
  refine GT_nil ?_
  refine GE_seq ?_
  refine GE_slots (L' := [(3, _), (4, _), (5, _), (6, _)]) ⟨rfl, rfl, rfl, rfl, trivial⟩ ?_
  refine GE_plain (.st 0 (.st 1 (.st 2 (.st 3 (.st 4 (.st 5 (.st 6 (.st 7 (.st 8 (.st 9 (.st 10 (.st 11 (.st 12 (.st 13 (.st 14 (.st 15 (.st 16 (.st 17 (.st 18 (.st 19 (.st 20 (.st 21 (.ld 22 [] (.st 23 (.st 24 .nil))))))))))))))))))))))))) rfl ?_
  refine GT_st rfl rfl rfl rfl (V_move rfl rfl) ?_
  refine GT_st rfl rfl rfl rfl (V_isT (V_eql rfl rfl rfl) rfl) ?_
  refine GT_st rfl rfl rfl rfl (V_move rfl rfl) ?_
  refine GT_st_g rfl rfl rfl rfl rfl rfl rfl (V_move rfl rfl) ?_
  refine GT_st_g rfl rfl rfl rfl rfl rfl rfl (V_isT (V_eql rfl rfl rfl) rfl) ?_
  refine GT_st rfl rfl rfl rfl (V_pick_t rfl rfl rfl) ?_
  refine GT_st rfl rfl rfl rfl (V_move rfl rfl) ?_
  refine GT_st_g rfl rfl rfl rfl rfl rfl rfl (V_move rfl rfl) ?_
  refine GT_st_g rfl rfl rfl rfl rfl rfl rfl (V_len rfl Tryz.underlying38 rfl) ?_
  refine GT_st_g rfl rfl rfl rfl rfl rfl rfl (V_isT (V_eql rfl rfl rfl) rfl) ?_
  refine GT_st rfl rfl rfl rfl (V_pick_t rfl rfl rfl) ?_
  refine GT_st rfl rfl rfl rfl (V_move rfl rfl) ?_
  refine GT_st_g rfl rfl rfl rfl rfl rfl rfl (V_move rfl rfl) ?_
  refine GT_st_g rfl rfl rfl rfl rfl rfl rfl (V_index (k := 0) rfl rfl rfl Tryz.underlying38 sz_3 rfl (by decide) (hy.isSome (k := 0) (by decide))) ?_
  refine GT_st_g rfl rfl rfl rfl rfl rfl rfl (V_load rfl rfl ag_3 (CellAt.own0 hy eN_len (k := 0) (by decide) rfl)) ?_
  refine GT_st_g rfl rfl rfl rfl rfl rfl rfl (V_isT (V_eql rfl rfl rfl) rfl) ?_
  refine GT_st rfl rfl rfl rfl (V_pick_t rfl rfl rfl) ?_
  refine GT_st rfl rfl rfl rfl (V_move rfl rfl) ?_
  refine GT_st_g rfl rfl rfl rfl rfl rfl rfl (V_move rfl rfl) ?_
  refine GT_st_g rfl rfl rfl rfl rfl rfl rfl (V_isT (V_eql rfl rfl rfl) (by decide)) ?_
  refine GT_st rfl rfl rfl rfl (V_pick_t rfl rfl rfl) ?_
  refine GT_st rfl rfl rfl rfl (V_move rfl rfl) ?_
  refine GT_call0_g rfl rfl rfl rfl rfl rfl rfl rfl rfl rfl rfl rn_175 (fun w hw => C_works03) (GR_nil) ?_
  refine GT_st rfl rfl rfl rfl (V_pick_t rfl rfl rfl) ?_
  refine GT_st rfl rfl rfl rfl (V_assign rfl rfl) ?_
  refine GT_nil ?_
  refine GE_ret Tryz.func133 rfl (fun w hw => ⟨?_, hw.nil⟩)
  rfl
end
end Go.Proofs.YtpbflnfcgcldkaaGreatDoor.Side
/- What a tip reads of a wall: plain and walked. -/
namespace Go.Proofs.YtpbflnfcgcldkaaGreatDoor.Ply
open Go.Sx Go.Proofs Go.RowKit
open Side (eN eN_len eN_one getD_memT sh_trans eP2 eP2_len eP2_one)
def dst (i u : Nat) : Nat := (u - i) + (i - u)
def lo (i r : Nat) : Nat := i + 1 - r
def hi (n i r : Nat) : Nat := min n (i + r)
def mnq (hs sh : List Int) (i b : Nat) (f : Int) : Nat → Int
  | 0 => f
  | j + 1 => if hs.getD (b + j) default + sh.getD (dst i (b + j)) default < mnq hs sh i b f j then hs.getD (b + j) default + sh.getD (dst i (b + j)) default else mnq hs sh i b f j
def wv (hs sh : List Int) (i : Nat) : Int := mnq hs sh i (lo i sh.length) (hs.getD i default) (hi hs.length i sh.length - lo i sh.length)
def wal (hs sh : List Int) : List Int := (List.range hs.length).map (wv hs sh)
structure WOk (hs sh : List Int) : Prop where
  hl : hs.length ≤ 1000
  sl : 1 ≤ sh.length ∧ sh.length ≤ 64
  hb : ∀ x ∈ hs, -4194304 ≤ x ∧ x ≤ 4194304
  sb : ∀ x ∈ sh, 0 ≤ x ∧ x ≤ 4194304
theorem near_bd {n i r u : Nat} (_hi : i < n) (h1 : lo i r ≤ u) (h2 : u < hi n i r) : u < n ∧ dst i u < r := by unfold lo at h1; unfold hi at h2; unfold dst; omega
theorem lo_hi {n i r : Nat} (h : i < n) (hr : 1 ≤ r) : lo i r ≤ i ∧ i < hi n i r := by unfold lo hi; omega
theorem mnq_bd {hs sh : List Int} {i : Nat} (h : WOk hs sh) (hi0 : i < hs.length) : ∀ j, lo i sh.length + j ≤ hi hs.length i sh.length → -4194304 ≤ mnq hs sh i (lo i sh.length) (hs.getD i default) j ∧ mnq hs sh i (lo i sh.length) (hs.getD i default) j ≤ 4194304
  | 0, _ => h.hb _ (getD_memT hi0)
  | j + 1, hj => by
    have ih := mnq_bd h hi0 j (by omega)
    obtain ⟨b1, b2⟩ := near_bd (r := sh.length) (u := lo i sh.length + j) hi0 (by omega) (by omega)
    have h1 := h.hb _ (getD_memT b1)
    have h2 := h.sb _ (getD_memT b2)
    rw [mnq]
    split <;> omega
theorem wal_len (hs sh : List Int) : (wal hs sh).length = hs.length := by simp [wal]
theorem wal_bd {hs sh : List Int} (h : WOk hs sh) : ∀ x ∈ wal hs sh, -4194304 ≤ x ∧ x ≤ 4194304 := by
  intro x hx
  obtain ⟨i, hi0, rfl⟩ := List.mem_map.1 hx
  have hin := List.mem_range.1 hi0
  have := lo_hi hin h.sl.1
  exact mnq_bd h hin _ (by omega)
section
variable {w w0 : World} {A A2 : Option Addr} {c c2 lp i n r b1 b2 b3 b4 b5 b8 : Nat} {hs sh : List Int}
abbrev nearB (i r n b1 b2 b3 : Nat) : Items := [(b1, blk [I i] 3), (b2, blk [I r] 3), (b3, blk [I n] 3)]
theorem C_near : Con Tryz.prog 267 [I i, I n, I r] w (fun _ : Nat × Nat × Nat => True) (fun y => .func (.func 305) #[] #[ptr y.1 0, ptr y.2.1 0, ptr y.2.2 0]) (fun y => nearB i r n y.1 y.2.1 y.2.2) := by
  refine Ret_of (vs := [_, _, _]) hm none' Tryz.func267 rfl Tryz.ntmps267 rfl ?_
  dsimp only [slotsOf]
  refine GE_seq ?_
  refine GE_plain (.ld 0 [] (.ld 1 [] (.ld 2 [] (.st 3 .nil)))) rfl ?_
  refine GT_box (z := [_]) rfl rfl rfl rfl rfl rfl rfl (fun _ => GR_nil) (fun b3 => ?_)
  refine GT_box (z := [_]) rfl rfl rfl rfl rfl rfl rfl (fun _ => GR_nil) (fun b4 => ?_)
  refine GT_box (z := [_]) rfl rfl rfl rfl rfl rfl rfl (fun _ => GR_nil) (fun b5 => ?_)
  refine GT_st rfl rfl rfl rfl (V_assign rfl rfl) ?_
  refine GT_nil ?_
  refine GE_seq ?_
  refine GE_slots (L' := [(3, _), (4, _), (5, _)]) ⟨rfl, rfl, rfl, trivial⟩ ?_
  refine GE_plain (.st 0 (.st 1 .nil)) rfl ?_
  refine GT_st rfl rfl rfl rfl (V_makeFunc rfl rfl rfl) ?_
  refine GT_st rfl rfl rfl rfl (V_assign rfl rfl) ?_
  refine GT_nil ?_
  refine GE_ret Tryz.func267 rfl (fun w hw => ?_)
  exact ⟨(b3, b5, b4), trivial, rfl, hw.hs (C := cx Tryz.prog hm 0 0 _ none' fun _ _ => True) (HS.cons rfl (HS.cons rfl (HS.cons rfl HS.nil)))⟩
set_option maxRecDepth 10000 in
theorem C_near1 {Q : Nat → Items → Prop} {J G : Items} (hin : i < n) (hn : n ≤ 1000) (hr : 1 ≤ r ∧ r ≤ 64)
    (hY : ∀ u J, lo i r ≤ u → u < hi n i r → Q u J → ∀ G, YieldTo Tryz.prog w0 none' lp [I u, I (dst i u)] (J ++ G) fun v H' => ∃ J', v = .bool true ∧ Q (u + 1) J' ∧ H' = J' ++ G)
    (hQ : Q (lo i r) J) (m : SH w0 none' (J ++ (nearB i r n b1 b2 b3 ++ G)) w) :
    Ret Tryz.prog 305 [.func (.yield lp) #[] #[], ptr b1 0, ptr b2 0, ptr b3 0].toArray w fun _ w' => ∃ J', Q (hi n i r) J' ∧ SH w0 none' (J' ++ G) w' := by
  have hlh := lo_hi hin hr.1
  refine Ret_ofH (vs := [_, _, _, _]) hm none' Tryz.func305 rfl Tryz.ntmps305 rfl m ?_
  dsimp only [slotsOf]
  refine GE_seq ?_
  refine GE_plain (.st 0 (.st 1 (.st 2 (.st 3 (.st 4 (.st 5 .nil)))))) rfl ?_
  refine GT_st rfl rfl rfl rfl (V_load rfl rfl ag_3 (CellAt.item rfl)) ?_
  refine GT_st rfl rfl rfl rfl (V_load rfl rfl ag_3 (CellAt.item rfl)) ?_
  refine GT_st rfl rfl rfl rfl (V_sub rfl rfl rfl (wrap_i64 (by omega))) ?_
  refine GT_st rfl rfl rfl rfl (V_add rfl rfl rfl (wrap_i64 (by omega))) ?_
  refine GT_st rfl rfl rfl rfl (V_max rfl rfl rfl) ?_
  refine GT_st rfl rfl rfl rfl (V_assign rfl rfl) ?_
  refine GT_nil ?_
  refine GE_block ?_
  refine GE_to (GE_loop (ι := Nat × Items) (fun z => hi n i r - z.1) (fun z => [(0, .func (.yield lp) #[] #[]), (1, ptr b1 0), (2, ptr b2 0), (3, ptr b3 0), (5, I z.1)]) (fun z => z.2 ++ (nearB i r n b1 b2 b3 ++ G)) (fun z => (lo i r ≤ z.1 ∧ z.1 ≤ hi n i r) ∧ Q z.1 z.2) ?_ (lo i r, J) ?_) ⟨rfl, rfl, rfl, rfl, lookI rfl (by dsimp only; unfold lo; omega), trivial⟩ (HS.chunk (HS.cons rfl (HS.cons rfl (HS.cons rfl (HS.last (I := G))))))
  · rintro ⟨u, J1⟩ ⟨⟨hu1, hu2⟩, hQ1⟩ ih; dsimp only at hu1 hu2 hQ1 ih ⊢
    refine GE_seq ?_
    refine GE_seq ?_
    refine GE_plain (.st 0 (.st 1 (.st 2 (.st 3 (.st 4 (.st 5 (.st 6 .nil))))))) rfl ?_
    refine GT_st rfl rfl rfl rfl (V_move rfl rfl) ?_
    refine GT_st rfl rfl rfl rfl (V_load rfl rfl ag_3 (CellAt.item rfl)) ?_
    refine GT_st rfl rfl rfl rfl (V_load rfl rfl ag_3 (CellAt.item rfl)) ?_
    refine GT_st rfl rfl rfl rfl (V_load rfl rfl ag_3 (CellAt.item rfl)) ?_
    refine GT_st rfl rfl rfl rfl (V_add rfl rfl rfl (wrap_i64 (by omega))) ?_
    refine GT_st rfl rfl rfl rfl (V_min rfl rfl rfl) ?_
    refine GT_st rfl rfl rfl rfl (V_lss rfl rfl rfl) ?_
    refine GT_nil ?_
    first | refine GE_condNot rfl (fun q1 => ?_) (fun q1 => ?_) | refine GE_cond rfl (fun q1 => ?_) (fun q1 => ?_) | refine GE_condNotB rfl (fun q1 => ?_) (fun q1 => ?_) | refine GE_condB rfl (fun q1 => ?_) (fun q1 => ?_)
    · have huh : u < hi n i r := (by unfold hi; omega); have hub := near_bd hin hu1 huh
      refine GE_skip ?_
      refine GE_seq ?_
      refine GE_block ?_
      refine GE_seq ?_
      refine GE_slots (L' := [(0, _), (1, _), (2, _), (3, _), (5, _)]) ⟨rfl, rfl, rfl, rfl, rfl, trivial⟩ ?_
      refine GE_plain (.st 0 (.st 1 (.st 2 (.st 3 (.st 4 (.st 5 (.st 6 (.st 7 (.st 8 (.ld 9 [] (.st 10 .nil))))))))))) rfl ?_
      refine GT_st rfl rfl rfl rfl (V_move rfl rfl) ?_
      refine GT_st rfl rfl rfl rfl (V_move rfl rfl) ?_
      refine GT_st rfl rfl rfl rfl (V_move rfl rfl) ?_
      refine GT_st rfl rfl rfl rfl (V_load rfl rfl ag_3 (CellAt.item rfl)) ?_
      refine GT_st rfl rfl rfl rfl (V_sub rfl rfl rfl (wrap_i64 (by omega))) ?_
      refine GT_st rfl rfl rfl rfl (V_load rfl rfl ag_3 (CellAt.item rfl)) ?_
      refine GT_st rfl rfl rfl rfl (V_move rfl rfl) ?_
      refine GT_st rfl rfl rfl rfl (V_sub rfl rfl rfl (wrap_i64 (by omega))) ?_
      refine GT_st rfl rfl rfl rfl (V_eqv (V_max rfl rfl rfl) (congrArg I (show _ = ((dst i u : Nat) : Int) by unfold dst; omega))) ?_
      refine GT_yield rfl rfl rfl rfl rfl rfl rfl (YieldTo.chunk (hY u J1 hu1 huh hQ1 _)) (fun _ _ _ => GR_nil) (fun v H' hR => ?_)
      obtain ⟨J2, rfl, hQ2, rfl⟩ := hR
      first | refine GT_st rfl rfl rfl rfl (V_not rfl rfl) ?_ | refine GT_st rfl rfl rfl rfl (V_notB rfl rfl) ?_
      refine GT_nil ?_
      refine GE_cond_f rfl ?_
      refine GE_skip ?_
      refine GE_inBlock ?_
      refine GE_slots (L' := [(0, _), (1, _), (2, _), (3, _), (5, _)]) ⟨rfl, rfl, rfl, rfl, rfl, trivial⟩ ?_
      refine GE_plain (.st 0 (.st 1 (.ld 2 [] .nil))) rfl ?_
      refine GT_st rfl rfl rfl rfl (V_move rfl rfl) ?_
      refine GT_st rfl rfl rfl rfl (V_add rfl rfl rfl (wrap_i64 (by omega))) ?_
      refine GT_ldv rfl rfl rfl rfl rfl (V_assign rfl rfl) (GR_nil) ?_
      refine GT_nil ?_
      exact GE_to (ih (u + 1, J2) ⟨⟨by dsimp only; omega, by dsimp only; omega⟩, hQ2⟩ (by dsimp only; omega)) ⟨rfl, rfl, rfl, rfl, rfl, trivial⟩ (HS.chunk (HS.cons rfl (HS.cons rfl (HS.cons rfl (HS.last (I := G))))))
    · obtain rfl : u = hi n i r := (by unfold hi at *; omega)
      refine GE_exit rfl ?_
      refine GE_end Tryz.func305 rfl (fun w hw => ⟨J1, hQ1, hw.hs (C := cx Tryz.prog hm 0 0 w0 none' fun _ _ => True) (HS.chunk HS.last)⟩)
      skip
  · exact ⟨⟨Nat.le_refl _, by omega⟩, hQ⟩
end
end Go.Proofs.YtpbflnfcgcldkaaGreatDoor.Ply
/- What a tip reads of a wall, walked. -/
namespace Go.Proofs.YtpbflnfcgcldkaaGreatDoor.Ply
open Go.Sx Go.Proofs Go.RowKit
open Side (eN eN_len eN_one getD_memT sh_trans eP2 eP2_len eP2_one)
def wq (hs sh : List Int) (k : Nat) : List Int := (List.range k).map (wv hs sh) ++ List.replicate (hs.length - k) 0
theorem wq_len {hs sh : List Int} {k : Nat} (hk : k ≤ hs.length) : (wq hs sh k).length = hs.length := by simp [wq]; omega
theorem wq_all (hs sh : List Int) : wq hs sh hs.length = wal hs sh := by simp [wq, wal]
theorem wq_set {hs sh : List Int} {k : Nat} (hk : k < hs.length) : (wq hs sh k).set k (wv hs sh k) = wq hs sh (k + 1) := by
  unfold wq
  rw [show hs.length - k = (hs.length - (k + 1)) + 1 by omega, List.replicate_succ, List.set_append, if_neg (by simp)]
  simp [List.range_succ]
section
variable {w w0 : World} {A A2 : Option Addr} {c c2 lp i n r b1 b2 b3 b4 bd b8 : Nat} {hs sh : List Int}
set_option maxRecDepth 10000 in
theorem C_walk1 {Q : Nat → Items → Prop} {J G : Items} (h8 : BlkAt w0 b8 [I i] 3) (h4 : BlkAt w0 b4 [.slice A hs.length c] 43) (h3 : BlkAt w0 b3 [.slice A2 sh.length c2] 259) (h5 : BlkAt w0 bd [.bool false] 4)
    (hr : RdL w0 1 eN A hs) (hr2 : RdL w0 1 eN A2 sh) (hok : WOk hs sh) (hin : i < hs.length)
    (hY : ∀ u J, lo i sh.length ≤ u → u < hi hs.length i sh.length → Q u J → ∀ G, YieldTo Tryz.prog w0 none' lp [I (hs.getD u default + sh.getD (dst i u) default)] (J ++ G) fun v H' => ∃ J', v = .bool true ∧ Q (u + 1) J' ∧ H' = J' ++ G)
    (hQ : Q (lo i sh.length) J) (m : SH w0 none' (J ++ G) w) :
    Ret Tryz.prog 266 [.func (.yield lp) #[] #[], ptr b8 0, ptr b4 0, ptr b3 0, ptr bd 0].toArray w fun _ w' => ∃ J', Q (hi hs.length i sh.length) J' ∧ SH w0 none' (J' ++ G) w' := by
  have hl1 := hok.hl
  have hl2 := hok.sl
  refine Ret_ofH (vs := [_, _, _, _, _]) hm none' Tryz.func266 rfl Tryz.ntmps266 rfl m ?_
  dsimp only [slotsOf]
  refine GE_seq ?_
  refine GE_plain (.ld 0 [] .nil) rfl ?_
  refine GT_box (z := [_]) rfl rfl rfl rfl rfl rfl rfl (fun _ => GR_nil) (fun b5 => ?_)
  refine GT_nil ?_
  refine GE_seq ?_
  refine GE_plain (.st 0 (.st 1 (.st 2 (.st 3 (.st 4 (.st 5 (.ld 6 [] .nil))))))) rfl ?_
  refine GT_st rfl rfl rfl rfl (V_load rfl rfl ag_3 (CellAt.old (h8.cell rfl) (fun q => q))) ?_
  refine GT_st rfl rfl rfl rfl (V_load rfl rfl ag_43 (CellAt.old (h4.cell rfl) (fun q => q))) ?_
  refine GT_st rfl rfl rfl rfl (V_len rfl Tryz.underlying43 rfl) ?_
  first | refine GT_st rfl rfl rfl rfl (V_field rfl rfl fo_259_0) ?_ | refine GT_st rfl rfl rfl rfl (V_fieldA rfl rfl fo_259_0) ?_
  refine GT_st rfl rfl rfl rfl (V_load rfl rfl ag_43 (CellAt.old (h3.cell rfl) (fun q => q))) ?_
  refine GT_st rfl rfl rfl rfl (V_len rfl Tryz.underlying43 rfl) ?_
  refine GT_call rfl rfl rfl rfl rfl rfl rfl rfl rn_267 (fun w hw => C_near (i := i) (n := hs.length) (r := sh.length)) (fun _ _ => GR_nil) (fun bn _ => ?_)
  refine GT_nil ?_
  refine GE_block ?_
  refine GE_range rfl rfl rn_305 (fun T l5 q r0 hr0 hT hlk w hw => ?_)
  refine (C_near1 (lp := l5) (i := i) (n := hs.length) (r := sh.length) (J := (l5, .loop r0) :: (b5, blk [.func (.yield lp) #[] #[]] 310) :: J) (G := (q, .deferred (some [])) :: G)
    (Q := fun u J' => ∃ J1, Q u J1 ∧ J' = (l5, .loop r0) :: (b5, blk [.func (.yield lp) #[] #[]] 310) :: J1)
    hin hl1 hl2 ?_ ⟨J, hQ, rfl⟩ (hw.hs (C := cx Tryz.prog hm 0 0 w0 none' fun _ _ => True) (HS.cons rfl (HS.cons rfl (HS.chunk (HS.cons rfl (HS.cons rfl (HS.cons rfl (HS.cons rfl HS.last))))))))).mono (fun v w' ⟨J', ⟨J1, hQ1, hJ'⟩, hw'⟩ => ?_)
  · rintro u J2 hu1 hu2 ⟨J1, hQ1, hJ⟩ G2; subst hJ; subst hr0
    obtain ⟨hub1, hub2⟩ := near_bd hin hu1 hu2
    have hb1 := hok.hb _ (getD_memT hub1)
    have hb2 := hok.sb _ (getD_memT hub2)
    refine yield_of inferInstance rfl rfl hT hlk rfl rfl hm ?_
    refine GE_slots (L' := [(2, ptr b4 0), (3, ptr b3 0), (4, ptr bd 0), (5, ptr b5 0), (16, I u), (17, I (dst i u))]) ⟨rfl, rfl, rfl, rfl, rfl, rfl, trivial⟩ ?_
    refine GE_seq ?_
    refine GE_plain (.st 0 .nil) rfl ?_
    refine GT_st rfl rfl rfl rfl (V_assign rfl rfl) ?_
    refine GT_nil ?_
    refine GE_plain (.st 0 .nil) rfl ?_
    refine GT_st rfl rfl rfl rfl (V_assign rfl rfl) ?_
    refine GT_nil ?_
    refine GE_beginRound rfl ?_
    refine GE_block ?_
    refine GE_seq ?_
    refine GE_plain (.st 0 (.st 1 (.st 2 (.st 3 (.st 4 (.st 5 .nil)))))) rfl ?_
    first | refine GT_st rfl rfl rfl rfl (V_field rfl rfl fo_259_0) ?_ | refine GT_st rfl rfl rfl rfl (V_fieldA rfl rfl fo_259_0) ?_
    refine GT_st rfl rfl rfl rfl (V_load rfl rfl ag_43 (CellAt.old (h3.cell rfl) (fun q => q))) ?_
    refine GT_st rfl rfl rfl rfl (V_move rfl rfl) ?_
    refine GT_st rfl rfl rfl rfl (V_index rfl rfl rfl Tryz.underlying43 sz_2 (k := dst i u) rfl hub2 (hr2.isSome hub2)) ?_
    refine GT_st rfl rfl rfl rfl (V_load rfl rfl ag_2 (hr2.at0 (fun _ q => q) hub2 rfl)) ?_
    refine GT_st rfl rfl rfl rfl (V_assign rfl rfl) ?_
    refine GT_nil ?_
    refine GE_seq ?_
    refine GE_seq ?_
    refine GE_slots (L' := [(2, _), (4, _), (5, _), (6, _), (8, _)]) ⟨rfl, rfl, rfl, rfl, rfl, trivial⟩ ?_
    refine GE_plain (.st 0 .nil) rfl ?_
    refine GT_st rfl rfl rfl rfl (V_load rfl rfl ag_4 (CellAt.old (h5.cell rfl) (fun q => q))) ?_
    refine GT_nil ?_
    refine GE_cond_f rfl ?_
    refine GE_skip ?_
    refine GE_seq ?_
    refine GE_drawn (.st 0 (.st 1 (.st 2 (.st 3 (.st 4 (.st 5 (.st 6 (.ld 7 [] (.st 8 .nil))))))))) [7] (by decide +kernel) ?_
    refine GT_st rfl rfl rfl rfl (V_load rfl rfl ag_310 (CellAt.item rfl)) ?_
    refine GT_st rfl rfl rfl rfl (V_load rfl rfl ag_43 (CellAt.old (h4.cell rfl) (fun q => q))) ?_
    refine GT_st rfl rfl rfl rfl (V_move rfl rfl) ?_
    refine GT_st rfl rfl rfl rfl (V_index rfl rfl rfl Tryz.underlying43 sz_2 (k := u) rfl hub1 (hr.isSome hub1)) ?_
    refine GT_st rfl rfl rfl rfl (V_load rfl rfl ag_2 (hr.at0 (fun _ q => q) hub1 rfl)) ?_
    refine GT_st rfl rfl rfl rfl (V_move rfl rfl) ?_
    refine GT_st rfl rfl rfl rfl (V_add rfl rfl rfl (wrap_i64 (by omega))) ?_
    refine GT_yield rfl rfl rfl rfl rfl rfl rfl (YieldTo.chunk (hY u J1 hu1 hu2 hQ1 _)) (fun _ _ _ => GR_nil) (fun v H' hR => ?_)
    obtain ⟨J3, rfl, hQ3, rfl⟩ := hR
    first | refine GT_st rfl rfl rfl rfl (V_not rfl rfl) ?_ | refine GT_st rfl rfl rfl rfl (V_notB rfl rfl) ?_
    refine GT_nil ?_
    refine GE_cond_f rfl ?_
    refine GE_skip ?_
    refine GE_inBlock ?_
    refine GE_leave none rfl (fun w hw => ⟨_, ⟨_, rfl, ⟨J3, hQ3, rfl⟩, rfl⟩, ?_⟩)
    exact hw.hs (HS.cons rfl (HS.cons rfl (HS.chunk HS.last)))
  · subst hJ'; subst hr0
    refine ⟨_, J1 ++ G, ?_, hw'.hs (C := cx Tryz.prog hm 0 0 w0 none' fun _ _ => True) (HS.cons rfl (HS.cons rfl (HS.chunk HS.last))), ?_⟩
    · intro h; cases h
    refine GE_D (D' := dq [q]) ?_ rfl
    refine GE_inBlock ?_
    refine GE_endq Tryz.func266 rfl (fun w hw => ⟨J1, hQ1, hw⟩)
    skip
end
end Go.Proofs.YtpbflnfcgcldkaaGreatDoor.Ply
/- What a tip reads of a wall, walked: the fold, and the whole wall. -/
namespace Go.Proofs.YtpbflnfcgcldkaaGreatDoor.Ply
open Go.Sx Go.Proofs Go.RowKit
open Side (eN eN_len eN_one getD_memT sh_trans eP2 eP2_len eP2_one)
section
variable {w w0 : World} {A A2 : Option Addr} {c c2 lp i n r g3 g4 gd g8 : Nat} {hs sh : List Int}
theorem C_less {a b : Int} : Con0 Tryz.prog 270 [I a, I b] w (.bool (decide (a < b))) := by
  refine Ret_of (vs := [_, _]) hm none' Tryz.func270 rfl Tryz.ntmps270 rfl ?_
  dsimp only [slotsOf]
  refine GE_seq ?_
  refine GE_plain (.st 0 .nil) rfl ?_
  refine GT_st rfl rfl rfl rfl (V_assign rfl rfl) ?_
  refine GT_nil ?_
  refine GE_seq ?_
  refine GE_plain (.st 0 (.st 1 (.st 2 (.st 3 .nil)))) rfl ?_
  refine GT_st rfl rfl rfl rfl (V_move rfl rfl) ?_
  refine GT_st rfl rfl rfl rfl (V_move rfl rfl) ?_
  refine GT_st rfl rfl rfl rfl (V_lss rfl rfl rfl) ?_
  refine GT_st rfl rfl rfl rfl (V_assign rfl rfl) ?_
  refine GT_nil ?_
  refine GE_ret Tryz.func270 rfl (fun w hw => ⟨?_, hw.nil⟩)
  rfl
set_option maxRecDepth 10000 in
theorem C_fold {f0 : Int} (h8 : BlkAt w g8 [I i] 3) (h4 : BlkAt w g4 [.slice A hs.length c] 43) (h3 : BlkAt w g3 [.slice A2 sh.length c2] 259) (h5 : BlkAt w gd [.bool false] 4)
    (hr : RdL w 1 eN A hs) (hr2 : RdL w 1 eN A2 sh) (hok : WOk hs sh) (hin : i < hs.length) :
    Con0 Tryz.prog 268 [I f0, .func (.func 266) #[] #[ptr g8 0, ptr g4 0, ptr g3 0, ptr gd 0], .func (.func 270) #[] #[]] w (I (mnq hs sh i (lo i sh.length) f0 (hi hs.length i sh.length - lo i sh.length))) := by
  refine Ret_of (vs := [_, _, _]) hm none' Tryz.func268 rfl Tryz.ntmps268 rfl ?_
  dsimp only [slotsOf]
  refine GE_seq ?_
  refine GE_plain (.ld 0 [] (.ld 1 [] (.st 2 .nil))) rfl ?_
  refine GT_box (z := [_]) rfl rfl rfl rfl rfl rfl rfl (fun _ => GR_nil) (fun b3 => ?_)
  refine GT_box (z := [_]) rfl rfl rfl rfl rfl rfl rfl (fun _ => GR_nil) (fun b5 => ?_)
  refine GT_st rfl rfl rfl rfl (V_assign rfl rfl) ?_
  refine GT_nil ?_
  refine GE_seq ?_
  refine GE_seq ?_
  refine GE_plain (.st 0 .nil) rfl ?_
  refine GT_st rfl rfl rfl rfl (V_move rfl rfl) ?_
  refine GT_nil ?_
  refine GE_block ?_
  refine GE_range rfl rfl rn_266 (fun T l5 q r0 hr0 hT hlk w hw => ?_)
  refine (C_walk1 (lp := l5) (i := i) (J := (l5, .loop r0) :: (b3, blk [I f0] 2) :: (b5, blk [.func (.func 270) #[] #[]] 290) :: []) (G := [(q, .deferred (some []))])
    (Q := fun u J' => J' = (l5, .loop r0) :: (b3, blk [I (mnq hs sh i (lo i sh.length) f0 (u - lo i sh.length))] 2) :: (b5, blk [.func (.func 270) #[] #[]] 290) :: [])
    h8 h4 h3 h5 hr hr2 hok hin ?_ (by rw [Nat.sub_self]; rfl) (hw.hs (C := cx Tryz.prog hm 0 0 _ none' fun _ _ => True) (HS.cons rfl (HS.cons rfl (HS.cons rfl (HS.cons rfl HS.nil)))))).mono (fun v w' ⟨J', hJ', hw'⟩ => ?_)
  · rintro u J2 hu1 hu2 hJ G2; subst hJ; subst hr0
    have hmn : mnq hs sh i (lo i sh.length) f0 (u + 1 - lo i sh.length) = if hs.getD u default + sh.getD (dst i u) default < mnq hs sh i (lo i sh.length) f0 (u - lo i sh.length) then hs.getD u default + sh.getD (dst i u) default else mnq hs sh i (lo i sh.length) f0 (u - lo i sh.length) := by
      rw [show u + 1 - lo i sh.length = (u - lo i sh.length) + 1 by omega, mnq, show lo i sh.length + (u - lo i sh.length) = u by omega]
    refine yield_of inferInstance rfl rfl hT hlk rfl rfl hm ?_
    refine GE_slots (L' := [(3, ptr b3 0), (5, ptr b5 0), (9, I (hs.getD u default + sh.getD (dst i u) default))]) ⟨rfl, rfl, rfl, trivial⟩ ?_
    refine GE_plain (.st 0 .nil) rfl ?_
    refine GT_st rfl rfl rfl rfl (V_assign rfl rfl) ?_
    refine GT_nil ?_
    refine GE_beginRound rfl ?_
    refine GE_block ?_
    refine GE_seq ?_
    refine GE_plain (.st 0 (.st 1 (.st 2 (.ld 3 [] .nil)))) rfl ?_
    refine GT_st rfl rfl rfl rfl (V_load rfl rfl ag_290 (CellAt.item rfl)) ?_
    refine GT_st rfl rfl rfl rfl (V_move rfl rfl) ?_
    refine GT_st rfl rfl rfl rfl (V_load rfl rfl ag_2 (CellAt.item rfl)) ?_
    refine GT_call0 rfl rfl rfl rfl rfl rfl rfl rfl rn_270 (fun w hw => C_less) (GR_nil) ?_
    refine GT_nil ?_
    first | refine GE_condNot rfl (fun h1 => ?_) (fun h1 => ?_) | refine GE_cond rfl (fun h1 => ?_) (fun h1 => ?_) | refine GE_condNotB rfl (fun h1 => ?_) (fun h1 => ?_) | refine GE_condB rfl (fun h1 => ?_) (fun h1 => ?_)
    · skip
      refine GE_slots (L' := [(3, _), (7, _)]) ⟨rfl, rfl, trivial⟩ ?_
      refine GE_plain (.st 0 (.ld 1 [] .nil)) rfl ?_
      refine GT_st rfl rfl rfl rfl (V_move rfl rfl) ?_
      refine GT_store (vs := [_]) (l' := [_]) rfl rfl rfl rfl rfl rfl rfl sz_2 rfl rfl (Nat.le_of_ble_eq_true rfl) rfl (GR_nil) ?_
      refine GT_nil ?_
      refine GE_inBlock ?_
      first
        | rw [if_pos h1] at hmn
          refine GE_leave none rfl (fun w hw => ⟨_, ⟨_, rfl, by rw [hmn], rfl⟩, ?_⟩)
          exact hw.hs (HS.cons rfl (HS.cons rfl (HS.cons rfl HS.last)))
        | rw [if_neg h1] at hmn
          refine GE_leave none rfl (fun w hw => ⟨_, ⟨_, rfl, by rw [hmn], rfl⟩, ?_⟩)
          exact hw.hs (HS.cons rfl (HS.cons rfl (HS.cons rfl HS.last)))
    · skip
      refine GE_skip ?_
      refine GE_inBlock ?_
      first
        | rw [if_pos h1] at hmn
          refine GE_leave none rfl (fun w hw => ⟨_, ⟨_, rfl, by rw [hmn], rfl⟩, ?_⟩)
          exact hw.hs (HS.cons rfl (HS.cons rfl (HS.cons rfl HS.last)))
        | rw [if_neg h1] at hmn
          refine GE_leave none rfl (fun w hw => ⟨_, ⟨_, rfl, by rw [hmn], rfl⟩, ?_⟩)
          exact hw.hs (HS.cons rfl (HS.cons rfl (HS.cons rfl HS.last)))
  · subst hJ'; subst hr0
    refine ⟨_, [(b3, blk [I (mnq hs sh i (lo i sh.length) f0 (hi hs.length i sh.length - lo i sh.length))] 2)], ?_, hw'.hs (C := cx Tryz.prog hm 0 0 _ none' fun _ _ => True) (HS.cons rfl (HS.cons rfl (HS.cons rfl HS.nil))), ?_⟩
    · intro h; cases h
    refine GE_D (D' := dq [q]) ?_ rfl
    refine GE_inBlock ?_
    refine GE_seq ?_
    refine GE_slots (L' := [(3, _)]) ⟨rfl, trivial⟩ ?_
    refine GE_plain (.st 0 (.st 1 .nil)) rfl ?_
    refine GT_st rfl rfl rfl rfl (V_load rfl rfl ag_2 (CellAt.item rfl)) ?_
    refine GT_st rfl rfl rfl rfl (V_assign rfl rfl) ?_
    refine GT_nil ?_
    refine GE_retq Tryz.func268 rfl (fun w hw => ⟨?_, hw.nil⟩)
    rfl
set_option maxRecDepth 10000 in
theorem C_walk (hr : RdL w 1 eN A hs) (hr2 : RdL w 1 eN A2 sh) (hok : WOk hs sh) : Con Tryz.prog 232 [.agg #[.slice A2 sh.length c2], .slice A hs.length c, .bool false] w (fun y : Option Addr × Nat × Items => Own 1 2 eN (wal hs sh) (.slice y.1 hs.length y.2.1) y.2.2) (fun y => .slice y.1 hs.length y.2.1) (fun y => y.2.2) := by
  have hl1 := hok.hl
  refine Ret_of (vs := [_, _, _]) hm none' Tryz.func232 rfl Tryz.ntmps232 rfl ?_
  dsimp only [slotsOf]
  refine GE_seq ?_
  refine GE_plain (.ld 0 [] (.ld 1 [] (.ld 2 [] (.st 3 .nil)))) rfl ?_
  refine GT_box (z := [_]) rfl rfl rfl rfl rfl rfl rfl (fun _ => GR_nil) (fun b3 => ?_)
  refine GT_box (z := [_]) rfl rfl rfl rfl rfl rfl rfl (fun _ => GR_nil) (fun b4 => ?_)
  refine GT_box (z := [_]) rfl rfl rfl rfl rfl rfl rfl (fun _ => GR_nil) (fun b5 => ?_)
  refine GT_st rfl rfl rfl rfl (V_assign rfl rfl) ?_
  refine GT_nil ?_
  refine GE_seq ?_
  refine GE_slots (L' := [(3, _), (4, _), (5, _)]) ⟨rfl, rfl, rfl, trivial⟩ ?_
  refine GE_plain (.st 0 (.st 1 (.ld 2 [] (.st 3 .nil)))) rfl ?_
  refine GT_st rfl rfl rfl rfl (V_load rfl rfl ag_43 (CellAt.item rfl)) ?_
  refine GT_st rfl rfl rfl rfl (V_len rfl Tryz.underlying43 rfl) ?_
  refine GT_makeSlice rfl rfl rfl rfl rfl rfl rfl Tryz.underlying43 zc_2 sz_2 by_2 (nn := hs.length) ⟨rfl, rfl, rfl⟩ (by omega) (fun _ => GR_nil) (fun b13 => ?_)
  refine GT_st rfl rfl rfl rfl (V_assign rfl rfl) ?_
  refine GT_nil ?_
  refine GE_seq ?_
  refine GE_seq ?_
  refine GE_plain (.st 0 (.st 1 (.st 2 .nil))) rfl ?_
  refine GT_st rfl rfl rfl rfl (V_load rfl rfl ag_43 (CellAt.item rfl)) ?_
  refine GT_st rfl rfl rfl rfl (V_len rfl Tryz.underlying43 rfl) ?_
  refine GT_st rfl rfl rfl rfl (V_move rfl rfl) ?_
  refine GT_nil ?_
  refine GE_block ?_
  refine GE_to (GE_loop (ι := Nat × Items) (fun z => hs.length - z.1) (fun z => [(3, ptr b3 0), (4, ptr b4 0), (5, ptr b5 0), (7, .slice (some ⟨b13, 0, none⟩) hs.length hs.length), (14, .slice A hs.length c), (15, I hs.length), (16, I z.1)]) (fun z => z.2 ++ [(b3, blk [.slice A2 sh.length c2] 259), (b4, blk [.slice A hs.length c] 43), (b5, blk [.bool false] 4)]) (fun z => z.1 ≤ hs.length ∧ Own 1 2 eN (wq hs sh z.1) (.slice (some ⟨b13, 0, none⟩) hs.length hs.length) z.2) ?_ (0, [(b13, blk ((List.replicate hs.length [I 0]).flatten) 2)]) ?_) ⟨rfl, rfl, rfl, rfl, rfl, rfl, rfl, trivial⟩ (HS.chunk (HS.cons rfl (HS.cons rfl (HS.cons rfl HS.nil))))
  · rintro ⟨k, J1⟩ ⟨hk, hO⟩ ih; dsimp only at hk hO ih ⊢
    refine GE_seq ?_
    refine GE_plain (.st 0 .nil) rfl ?_
    refine GT_st rfl rfl rfl rfl (V_lss rfl rfl rfl) ?_
    refine GT_nil ?_
    refine GE_seq ?_
    first | refine GE_condNot rfl (fun q1 => ?_) (fun q1 => ?_) | refine GE_cond rfl (fun q1 => ?_) (fun q1 => ?_) | refine GE_condNotB rfl (fun q1 => ?_) (fun q1 => ?_) | refine GE_condB rfl (fun q1 => ?_) (fun q1 => ?_)
    · have hkl : k < hs.length := (by omega)
      refine GE_skip ?_
      refine GE_seq ?_
      refine GE_block ?_
      refine GE_seq ?_
      refine GE_plain (.st 0 (.st 1 (.st 2 (.ld 3 [] (.ld 4 [] (.st 5 .nil)))))) rfl ?_
      refine GT_st rfl rfl rfl rfl (V_move rfl rfl) ?_
      refine GT_st rfl rfl rfl rfl (V_index rfl rfl rfl Tryz.underlying43 sz_2 (k := k) rfl hkl (hr.isSome hkl)) ?_
      refine GT_st rfl rfl rfl rfl (V_load rfl rfl ag_2 (hr.at0 noM hkl rfl)) ?_
      refine GT_alloc rfl rfl rfl rfl rfl zc_3 (fun _ => GR_nil) (fun b8 => ?_)
      refine GT_store (vs := [_]) (l' := [_]) rfl rfl rfl rfl rfl rfl rfl sz_3 rfl rfl (Nat.le_of_ble_eq_true rfl) rfl (GR_nil) ?_
      refine GT_st rfl rfl rfl rfl (V_assign rfl rfl) ?_
      refine GT_nil ?_
      refine GE_seq ?_
      refine GE_slots (L' := [(3, _), (4, _), (5, _), (7, _), (8, _), (9, _), (14, _), (15, _), (16, _)]) ⟨rfl, rfl, rfl, rfl, rfl, rfl, rfl, rfl, rfl, trivial⟩ ?_
      refine GE_plain (.st 0 (.st 1 .nil)) rfl ?_
      refine GT_st rfl rfl rfl rfl (V_makeFunc rfl rfl rfl) ?_
      refine GT_st rfl rfl rfl rfl (V_assign rfl rfl) ?_
      refine GT_nil ?_
      refine GE_seq ?_
      refine GE_plain (.st 0 .nil) rfl ?_
      refine GT_st rfl rfl rfl rfl (V_load rfl rfl ag_4 (CellAt.item rfl)) ?_
      refine GT_nil ?_
      refine GE_cond_f rfl ?_
      refine GE_drawn (.st 0 (.st 1 (.st 2 (.st 3 (.ld 4 [0, 1] (.st 5 (.ld 6 [] .nil))))))) [4, 6] (by decide +kernel) ?_
      refine GT_st rfl rfl rfl rfl (V_move rfl rfl) ?_
      refine GT_st rfl rfl rfl rfl (V_load rfl rfl ag_3 (CellAt.item rfl)) ?_
      refine GT_st rfl rfl rfl rfl (V_move rfl rfl) ?_
      refine GT_st rfl rfl rfl rfl (V_move rfl rfl) ?_
      refine GT_call0 rfl rfl rfl rfl rfl rfl rfl rfl rn_268 (fun w hw => C_fold (BlkAt.of hw) (BlkAt.of hw) (BlkAt.of hw) (BlkAt.of hw) (hr.sh hw) (hr2.sh hw) hok hkl) (GR_cons rfl rfl rfl rfl (V_move rfl rfl) (GR_cons rfl rfl rfl rfl (V_load rfl rfl ag_3 (CellAt.item rfl)) (GR_nil))) ?_
      refine GT_st rfl rfl rfl rfl (V_index rfl rfl rfl Tryz.underlying43 sz_2 (k := k) rfl hkl rfl) ?_
      refine GT_storeOwn (enc := eN) (q := k) (xx := wv hs sh k) rfl rfl rfl rfl rfl rfl rfl sz_2 hO eN_len eN_one (by rw [wq_len hk]; exact hkl) (by decide) (fun _ _ => GR_nil) (fun I3 hO3 => ?_)
      refine GT_nil ?_
      refine GE_inBlock ?_
      refine GE_slots (L' := [(3, _), (4, _), (5, _), (7, _), (14, _), (15, _), (16, _)]) ⟨rfl, rfl, rfl, rfl, rfl, rfl, rfl, trivial⟩ ?_
      refine GE_plain (.st 0 (.ld 1 [] .nil)) rfl ?_
      refine GT_st rfl rfl rfl rfl (V_add rfl rfl rfl (wrap_i64 (by omega))) ?_
      refine GT_ldv rfl rfl rfl rfl rfl (V_move rfl rfl) (GR_nil) ?_
      refine GT_nil ?_
      exact GE_to (ih (k + 1, I3) ⟨by dsimp only; omega, by dsimp only; rw [← wq_set hkl]; exact hO3⟩ (by dsimp only; omega)) ⟨rfl, rfl, rfl, rfl, rfl, rfl, rfl, trivial⟩ (HS.chunk (HS.cons rfl (HS.cons rfl (HS.cons rfl HS.nil))))
    · obtain rfl : k = hs.length := (by omega); rw [wq_all] at hO
      refine GE_exit rfl ?_
      refine GE_seq ?_
      refine GE_slots (L' := [(7, _)]) ⟨rfl, trivial⟩ ?_
      refine GE_plain (.st 0 (.st 1 .nil)) rfl ?_
      refine GT_st rfl rfl rfl rfl (V_move rfl rfl) ?_
      refine GT_st rfl rfl rfl rfl (V_assign rfl rfl) ?_
      refine GT_nil ?_
      refine GE_ret Tryz.func232 rfl (fun w hw => ?_)
      exact ⟨(some ⟨b13, 0, none⟩, hs.length, J1), hO, rfl, hw.hs (C := cx Tryz.prog hm 0 0 _ none' fun _ _ => True) HS.last⟩
  · exact ⟨Nat.zero_le _, by have h := Own.made (sz := 1) (e := 2) (enc := eN) (nn := hs.length) (b := b13) (x := 0) (zz := (List.replicate hs.length [I 0]).flatten) rfl (by unfold maxLen; omega); unfold wq; simpa using h⟩
end
end Go.Proofs.YtpbflnfcgcldkaaGreatDoor.Ply
