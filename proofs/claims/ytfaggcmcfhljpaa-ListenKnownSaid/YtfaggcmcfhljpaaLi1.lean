/- Pascal's triangle, the ways of a sample, walked. -/
import Derived.Test.YtfaggcmcfhljpaaSxC
import Derived.Test.YtfaggcmcfhljpaaFa
import Derived.Test.YtfaggcmcfhljpaaLiS
import Derived.Test.YtfaggcmcfhljpaaLiA
namespace Go.Proofs.Ytfaggcmcfhljpaa
open Go.Sx Go.Proofs

theorem C_betw {x lo hi : Int} {w : World} : Con0 Try.prog 38 [I x, I lo, I hi] w (.bool (betw x lo hi)) := by
  have hd : ∀ q : Bool, (betw x lo hi = true ↔ q = true) → Value.bool q = Value.bool (betw x lo hi) := fun q hq => congrArg Value.bool (by rw [Bool.eq_iff_iff, hq])
  refine Ret_of (vs := [_, _, _]) hm none' Try.func38 rfl Try.ntmps38 rfl ?_
  dsimp only [slotsOf]
  refine GE_seq ?_
  refine GE_plain (.st 0 .nil) rfl ?_
  refine GT_st rfl rfl rfl rfl (V_assign rfl rfl) ?_
  refine GT_nil ?_
  refine GE_seq ?_
  refine GE_plain (.st 0 (.st 1 (.st 2 (.st 3 (.st 4 (.st 5 (.st 6 (.st 7 (.st 8 .nil))))))))) rfl ?_
  refine GT_st rfl rfl rfl rfl (V_move rfl rfl) ?_
  refine GT_st rfl rfl rfl rfl (V_move rfl rfl) ?_
  refine GT_st rfl rfl rfl rfl (V_geq rfl rfl rfl) ?_
  refine GT_st rfl rfl rfl rfl (V_move rfl rfl) ?_
  first | refine GT_splitNot (d := 10) rfl (fun h1 => ?_) (fun h1 => ?_) | refine GT_split (d := 10) rfl (fun h1 => ?_) (fun h1 => ?_) | refine GT_splitNotB (d := 10) rfl (fun h1 => ?_) (fun h1 => ?_) | refine GT_splitB (d := 10) rfl (fun h1 => ?_) (fun h1 => ?_)
  · skip
    refine GT_st_g rfl rfl rfl rfl rfl rfl rfl (V_move rfl rfl) ?_
    refine GT_st_g rfl rfl rfl rfl rfl rfl rfl (V_move rfl rfl) ?_
    refine GT_st_g rfl rfl rfl rfl rfl rfl rfl (V_leq rfl rfl rfl) ?_
    refine GT_st rfl rfl rfl rfl (V_pick_t rfl rfl rfl) ?_
    refine GT_st rfl rfl rfl rfl (V_assign rfl rfl) ?_
    refine GT_nil ?_
    refine GE_ret Try.func38 rfl (fun w hw => ⟨?_, hw.nil⟩)
    refine hd _ ?_; rw [betw_iff]; (first | (simp; done) | (simp; omega))
  · skip
    refine GT_skip rfl rfl rfl rfl rfl (by decide) rfl rfl ?_
    refine GT_skip rfl rfl rfl rfl rfl (by decide) rfl rfl ?_
    refine GT_skip rfl rfl rfl rfl rfl (by decide) rfl rfl ?_
    refine GT_st rfl rfl rfl rfl (V_pick_f rfl rfl rfl) ?_
    refine GT_st rfl rfl rfl rfl (V_assign rfl rfl) ?_
    refine GT_nil ?_
    refine GE_ret Try.func38 rfl (fun w hw => ⟨?_, hw.nil⟩)
    refine hd _ ?_; rw [betw_iff]; (first | (simp; done) | (simp; omega))
theorem C_betw64 {x lo hi : Int} {w : World} : Con0 Try.prog 58 [I x, I lo, I hi] w (.bool (betw x lo hi)) := by
  have hd : ∀ q : Bool, (betw x lo hi = true ↔ q = true) → Value.bool q = Value.bool (betw x lo hi) := fun q hq => congrArg Value.bool (by rw [Bool.eq_iff_iff, hq])
  refine Ret_of (vs := [_, _, _]) hm none' Try.func58 rfl Try.ntmps58 rfl ?_
  dsimp only [slotsOf]
  refine GE_seq ?_
  refine GE_plain (.st 0 .nil) rfl ?_
  refine GT_st rfl rfl rfl rfl (V_assign rfl rfl) ?_
  refine GT_nil ?_
  refine GE_seq ?_
  refine GE_plain (.st 0 (.st 1 (.st 2 (.st 3 (.st 4 (.st 5 (.st 6 (.st 7 (.st 8 .nil))))))))) rfl ?_
  refine GT_st rfl rfl rfl rfl (V_move rfl rfl) ?_
  refine GT_st rfl rfl rfl rfl (V_move rfl rfl) ?_
  refine GT_st rfl rfl rfl rfl (V_geq rfl rfl rfl) ?_
  refine GT_st rfl rfl rfl rfl (V_move rfl rfl) ?_
  first | refine GT_splitNot (d := 10) rfl (fun h1 => ?_) (fun h1 => ?_) | refine GT_split (d := 10) rfl (fun h1 => ?_) (fun h1 => ?_) | refine GT_splitNotB (d := 10) rfl (fun h1 => ?_) (fun h1 => ?_) | refine GT_splitB (d := 10) rfl (fun h1 => ?_) (fun h1 => ?_)
  · skip
    refine GT_st_g rfl rfl rfl rfl rfl rfl rfl (V_move rfl rfl) ?_
    refine GT_st_g rfl rfl rfl rfl rfl rfl rfl (V_move rfl rfl) ?_
    refine GT_st_g rfl rfl rfl rfl rfl rfl rfl (V_leq rfl rfl rfl) ?_
    refine GT_st rfl rfl rfl rfl (V_pick_t rfl rfl rfl) ?_
    refine GT_st rfl rfl rfl rfl (V_assign rfl rfl) ?_
    refine GT_nil ?_
    refine GE_ret Try.func58 rfl (fun w hw => ⟨?_, hw.nil⟩)
    refine hd _ ?_; rw [betw_iff]; (first | (simp; done) | (simp; omega))
  · skip
    refine GT_skip rfl rfl rfl rfl rfl (by decide) rfl rfl ?_
    refine GT_skip rfl rfl rfl rfl rfl (by decide) rfl rfl ?_
    refine GT_skip rfl rfl rfl rfl rfl (by decide) rfl rfl ?_
    refine GT_st rfl rfl rfl rfl (V_pick_f rfl rfl rfl) ?_
    refine GT_st rfl rfl rfl rfl (V_assign rfl rfl) ?_
    refine GT_nil ?_
    refine GE_ret Try.func58 rfl (fun w hw => ⟨?_, hw.nil⟩)
    refine hd _ ?_; rw [betw_iff]; (first | (simp; done) | (simp; omega))

/-- the triangle, its first n rows and the first k numbers of the next one laid -/
def trT (n k : Nat) : List Int := (List.range 2601).map fun i => if i / 51 < n ∨ (i / 51 = n ∧ i % 51 < k) then (ch (i / 51) (i % 51) : Int) else 0
def triL : List Int := trT 51 0
theorem trT_len (n k : Nat) : (trT n k).length = 2601 := by simp [trT]
theorem triL_len : triL.length = 2601 := trT_len 51 0
theorem trT_zero : trT 0 0 = List.replicate 2601 0 := by
  unfold trT
  generalize 2601 = N
  rw [List.eq_replicate_iff]
  refine ⟨by simp, fun b hb => ?_⟩
  obtain ⟨i, _, rfl⟩ := List.mem_map.1 hb
  rw [if_neg (by omega)]
theorem trT_set {n k : Nat} (hn : n < 51) (hk : k < 51) : (trT n k).set (n * 51 + k) (ch n k) = trT n (k + 1) := by
  apply List.ext_getElem (by simp [trT])
  intro i h1 h2
  rw [List.getElem_set]
  simp only [trT, List.getElem_map, List.getElem_range]
  by_cases e : n * 51 + k = i
  · subst e
    rw [if_pos rfl, if_pos (by omega), show (n * 51 + k) / 51 = n by omega, show (n * 51 + k) % 51 = k by omega]
  · rw [if_neg e]
    by_cases h : i / 51 < n ∨ (i / 51 = n ∧ i % 51 < k)
    · rw [if_pos h, if_pos (by omega)]
    · rw [if_neg h, if_neg (by omega)]
theorem trT_row (n : Nat) : trT n (n + 1) = trT (n + 1) 0 := by
  apply List.ext_getElem (by simp [trT])
  intro i h1 h2
  simp only [trT, List.getElem_map, List.getElem_range]
  by_cases h : i / 51 < n ∨ (i / 51 = n ∧ i % 51 < n + 1)
  · rw [if_pos h, if_pos (by omega)]
  · rw [if_neg h]
    by_cases h3 : i / 51 < n + 1 ∨ (i / 51 = n + 1 ∧ i % 51 < 0)
    · rw [if_pos h3, ch_gt (by omega)]; rfl
    · rw [if_neg h3]
theorem trT_get {n k i j : Nat} (hj : j < 51) (hi : i < 51) (h : i < n ∨ (i = n ∧ j < k)) : (trT n k).getD (i * 51 + j) default = ch i j := by
  have hlt : i * 51 + j < 2601 := by omega
  simp only [trT, List.getD, List.getElem?_map, List.getElem?_range hlt, Option.map_some, Option.getD_some]
  rw [show (i * 51 + j) / 51 = i by omega, show (i * 51 + j) % 51 = j by omega, if_pos h]
theorem triL_get {i j : Nat} (hj : j < 51) (hi : i < 51) : triL.getD (i * 51 + j) default = ch i j := trT_get hj hi (.inl hi)
theorem ch_cast {n k : Nat} (hn : 1 ≤ n) (hk : 1 ≤ k) : (ch n k : Int) = ch (n - 1) (k - 1) + ch (n - 1) k := by
  obtain ⟨n, rfl⟩ : ∃ q, n = q + 1 := ⟨n - 1, by omega⟩
  obtain ⟨k, rfl⟩ : ∃ q, k = q + 1 := ⟨k - 1, by omega⟩
  rw [ch_succ]; simp
theorem flat_I (l : List Int) : l.flatMap eI = l.map I := by
  induction l with
  | nil => rfl
  | cons x l ih => rw [List.flatMap_cons, ih]; rfl

set_option maxRecDepth 100000 in
theorem zc_tri : zcOf Try.prog 112 = some (List.replicate 2601 (I 0)) := by kernel_rfl

theorem ch_bd {n k : Nat} (hn : n ≤ 50) : (ch n k : Int) ≤ 1125899906842624 := by
  have h1 := ch_pow n k
  have h2 : 2 ^ n ≤ 2 ^ 50 := Nat.pow_le_pow_right (by decide) hn
  have h3 : (2 : Nat) ^ 50 = 1125899906842624 := by decide
  omega
theorem C_pascal {w : World} : Con Try.prog 36 [] w (fun _ : Nat => True) (fun g => ptr g 0) (fun g => [(g, blk (triL.flatMap eI) 112)]) := by
  refine Ret_of (vs := []) hm none' Try.func36 rfl Try.ntmps36 rfl ?_
  dsimp only [slotsOf]
  refine GE_seq ?_
  refine GE_plain (.st 0 .nil) rfl ?_
  refine GT_st rfl rfl rfl rfl (V_assign rfl rfl) ?_
  refine GT_nil ?_
  refine GE_seq ?_
  refine GE_plain (.ld 0 [] (.st 1 .nil)) rfl ?_
  refine GT_alloc rfl rfl rfl rfl rfl zc_tri (fun _ => GR_nil) (fun b4 => ?_)
  refine GT_st rfl rfl rfl rfl (V_assign rfl rfl) ?_
  refine GT_nil ?_
  refine GE_seq ?_
  refine GE_seq ?_
  refine GE_plain (.st 0 .nil) rfl ?_
  refine GT_st rfl rfl rfl rfl (V_move rfl rfl) ?_
  refine GT_nil ?_
  refine GE_block ?_
  refine GE_to (GE_loop (ι := Nat × Items) (fun x => 51 - x.1) (fun x => [(1, ptr b4 0), (5, I x.1)]) (fun x => x.2) (fun x => x.1 ≤ 51 ∧ Own 1 112 eI (trT x.1 0) (.slice (some ⟨b4, 0, none⟩) 2601 2601) x.2) ?_ (0, [(b4, blk (List.replicate 2601 (I 0)) 112)]) ?_) ⟨rfl, rfl, trivial⟩ HS.last
  · rintro ⟨n, I1⟩ ⟨hn, hO⟩ ih; dsimp only at hn hO ih ⊢; have hl := trT_len n 0
    refine GE_seq ?_
    refine GE_plain (.st 0 .nil) rfl ?_
    refine GT_st rfl rfl rfl rfl (V_lss rfl rfl rfl) ?_
    refine GT_nil ?_
    refine GE_seq ?_
    first | refine GE_condNot rfl (fun h1 => ?_) (fun h1 => ?_) | refine GE_cond rfl (fun h1 => ?_) (fun h1 => ?_) | refine GE_condNotB rfl (fun h1 => ?_) (fun h1 => ?_) | refine GE_condB rfl (fun h1 => ?_) (fun h1 => ?_)
    · have hn51 : n < 51 := (by omega)
      refine GE_skip ?_
      refine GE_seq ?_
      refine GE_block ?_
      refine GE_seq ?_
      refine GE_plain (.st 0 (.st 1 .nil)) rfl ?_
      refine GT_st rfl rfl rfl rfl (V_move rfl rfl) ?_
      refine GT_st rfl rfl rfl rfl (V_assign rfl rfl) ?_
      refine GT_nil ?_
      refine GE_seq ?_
      refine GE_plain (.st 0 (.st 1 (.st 2 (.st 3 (.st 4 (.ld 5 [] .nil)))))) rfl ?_
      refine GT_st rfl rfl rfl rfl (V_move rfl rfl) ?_
      refine GT_st rfl rfl rfl rfl (V_move rfl rfl) ?_
      first | refine GT_st rfl rfl rfl rfl (V_nilCheck rfl rfl) ?_ | refine GT_st rfl rfl rfl rfl (V_nilCheck_func rfl rfl) ?_ | refine GT_st rfl rfl rfl rfl (V_nilCheck_yield rfl rfl) ?_
      first | refine GT_st rfl rfl rfl rfl (V_indexArr rfl rfl rfl Try.underlying112 sz_110 (kk := n) rfl hn51) ?_ | refine GT_st rfl rfl rfl rfl (V_indexArrA rfl rfl rfl Try.underlying112 sz_110 (kk := n) rfl hn51) ?_
      first | refine GT_st rfl rfl rfl rfl (V_indexArr (kk := 0) rfl rfl rfl Try.underlying110 sz_2 rfl (by omega)) ?_ | refine GT_st rfl rfl rfl rfl (V_indexArrA (kk := 0) rfl rfl rfl Try.underlying110 sz_2 rfl (by omega)) ?_
      refine GT_storeOwnQ (enc := eI) (q := n * 51 + 0) (xx := ch n 0) rfl rfl rfl rfl rfl rfl (by rw [ch_zero]; rfl) sz_2 hO eI_len eI_one (by omega) (by omega) (by decide) (fun _ _ => GR_nil) (fun I1' hO1 => ?_)
      refine GT_nil ?_
      refine GE_seq ?_
      refine GE_slots (L' := [(1, _), (2, _), (5, _)]) ⟨rfl, rfl, rfl, trivial⟩ ?_
      rw [trT_set hn51 (by decide)] at hO1
      refine GE_plain (.st 0 .nil) rfl ?_
      refine GT_st rfl rfl rfl rfl (V_assign rfl rfl) ?_
      refine GT_nil ?_
      refine GE_block ?_
      refine GE_to (GE_loop (ι := Nat × Items) (fun x => n + 1 - x.1) (fun x => [(1, ptr b4 0), (2, I n), (3, I x.1), (5, I n)]) (fun x => x.2) (fun x => 1 ≤ x.1 ∧ x.1 ≤ n + 1 ∧ Own 1 112 eI (trT n x.1) (.slice (some ⟨b4, 0, none⟩) 2601 2601) x.2) ?_ (1, I1') ?_) ⟨rfl, rfl, rfl, rfl, trivial⟩ HS.last
      · rintro ⟨k, I2⟩ ⟨hk1, hk, hO2⟩ ih2; dsimp only at hk1 hk hO2 ih2 ⊢; have hl2 := trT_len n k
        refine GE_seq ?_
        refine GE_seq ?_
        refine GE_plain (.st 0 (.st 1 (.st 2 .nil))) rfl ?_
        refine GT_st rfl rfl rfl rfl (V_move rfl rfl) ?_
        refine GT_st rfl rfl rfl rfl (V_move rfl rfl) ?_
        refine GT_st rfl rfl rfl rfl (V_leq rfl rfl rfl) ?_
        refine GT_nil ?_
        first | refine GE_condNot rfl (fun h2 => ?_) (fun h2 => ?_) | refine GE_cond rfl (fun h2 => ?_) (fun h2 => ?_) | refine GE_condNotB rfl (fun h2 => ?_) (fun h2 => ?_) | refine GE_condB rfl (fun h2 => ?_) (fun h2 => ?_)
        · have hkn : k ≤ n := (by omega); have e1 := trT_get (n := n) (k := k) (i := n - 1) (j := k - 1) (by omega) (by omega) (by omega); have e2 := trT_get (n := n) (k := k) (i := n - 1) (j := k) (by omega) (by omega) (by omega); have b1 := ch_bd (n := n - 1) (k := k - 1) (by omega); have b2 := ch_bd (n := n - 1) (k := k) (by omega)
          refine GE_skip ?_
          refine GE_seq ?_
          refine GE_block ?_
          refine GE_drawn (.st 0 (.st 1 (.st 2 (.st 3 (.st 4 (.st 5 (.st 6 (.st 7 (.st 8 (.st 9 (.st 10 (.st 11 (.st 12 (.st 13 (.st 14 (.st 15 (.st 16 (.st 17 (.st 18 (.st 19 (.st 20 (.st 21 (.st 22 (.st 23 (.ld 24 [] .nil))))))))))))))))))))))))) [24] (by decide +kernel) ?_
          refine GT_st rfl rfl rfl rfl (V_move rfl rfl) ?_
          refine GT_st rfl rfl rfl rfl (V_move rfl rfl) ?_
          refine GT_st rfl rfl rfl rfl (V_move rfl rfl) ?_
          refine GT_st rfl rfl rfl rfl (V_move rfl rfl) ?_
          refine GT_st rfl rfl rfl rfl (V_move rfl rfl) ?_
          refine GT_st rfl rfl rfl rfl (V_sub rfl rfl rfl (wrap_i64 (by omega))) ?_
          refine GT_st rfl rfl rfl rfl (V_move rfl rfl) ?_
          refine GT_st rfl rfl rfl rfl (V_sub rfl rfl rfl (wrap_i64 (by omega))) ?_
          first | refine GT_st rfl rfl rfl rfl (V_nilCheck rfl rfl) ?_ | refine GT_st rfl rfl rfl rfl (V_nilCheck_func rfl rfl) ?_ | refine GT_st rfl rfl rfl rfl (V_nilCheck_yield rfl rfl) ?_
          first | refine GT_st rfl rfl rfl rfl (V_indexArr rfl rfl rfl Try.underlying112 sz_110 (kk := n - 1) (by omega) (by omega)) ?_ | refine GT_st rfl rfl rfl rfl (V_indexArrA rfl rfl rfl Try.underlying112 sz_110 (kk := n - 1) (by omega) (by omega)) ?_
          first | refine GT_st rfl rfl rfl rfl (V_indexArr rfl rfl rfl Try.underlying110 sz_2 (kk := k - 1) (by omega) (by omega)) ?_ | refine GT_st rfl rfl rfl rfl (V_indexArrA rfl rfl rfl Try.underlying110 sz_2 (kk := k - 1) (by omega) (by omega)) ?_
          refine GT_st rfl rfl rfl rfl (V_load rfl rfl ag_2 (CellAt.ownQ (k := (n - 1) * 51 + (k - 1)) (j := 0) hO2 eI_len (by omega) (by omega) (by rw [e1]; rfl))) ?_
          refine GT_st rfl rfl rfl rfl (V_move rfl rfl) ?_
          refine GT_st rfl rfl rfl rfl (V_move rfl rfl) ?_
          refine GT_st rfl rfl rfl rfl (V_sub rfl rfl rfl (wrap_i64 (by omega))) ?_
          refine GT_st rfl rfl rfl rfl (V_move rfl rfl) ?_
          first | refine GT_st rfl rfl rfl rfl (V_nilCheck rfl rfl) ?_ | refine GT_st rfl rfl rfl rfl (V_nilCheck_func rfl rfl) ?_ | refine GT_st rfl rfl rfl rfl (V_nilCheck_yield rfl rfl) ?_
          first | refine GT_st rfl rfl rfl rfl (V_indexArr rfl rfl rfl Try.underlying112 sz_110 (kk := n - 1) (by omega) (by omega)) ?_ | refine GT_st rfl rfl rfl rfl (V_indexArrA rfl rfl rfl Try.underlying112 sz_110 (kk := n - 1) (by omega) (by omega)) ?_
          first | refine GT_st rfl rfl rfl rfl (V_indexArr rfl rfl rfl Try.underlying110 sz_2 (kk := k) rfl (by omega)) ?_ | refine GT_st rfl rfl rfl rfl (V_indexArrA rfl rfl rfl Try.underlying110 sz_2 (kk := k) rfl (by omega)) ?_
          refine GT_st rfl rfl rfl rfl (V_load rfl rfl ag_2 (CellAt.ownQ (k := (n - 1) * 51 + k) (j := 0) hO2 eI_len (by omega) (by omega) (by rw [e2]; rfl))) ?_
          refine GT_st rfl rfl rfl rfl (V_add rfl rfl rfl (wrap_i64 (by omega))) ?_
          first | refine GT_st rfl rfl rfl rfl (V_nilCheck rfl rfl) ?_ | refine GT_st rfl rfl rfl rfl (V_nilCheck_func rfl rfl) ?_ | refine GT_st rfl rfl rfl rfl (V_nilCheck_yield rfl rfl) ?_
          first | refine GT_st rfl rfl rfl rfl (V_indexArr rfl rfl rfl Try.underlying112 sz_110 (kk := n) rfl hn51) ?_ | refine GT_st rfl rfl rfl rfl (V_indexArrA rfl rfl rfl Try.underlying112 sz_110 (kk := n) rfl hn51) ?_
          first | refine GT_st rfl rfl rfl rfl (V_indexArr rfl rfl rfl Try.underlying110 sz_2 (kk := k) rfl (by omega)) ?_ | refine GT_st rfl rfl rfl rfl (V_indexArrA rfl rfl rfl Try.underlying110 sz_2 (kk := k) rfl (by omega)) ?_
          refine GT_storeOwnQ (enc := eI) (q := n * 51 + k) (xx := ch n k) rfl rfl rfl rfl rfl rfl (by rw [ch_cast (n := n) (k := k) (by omega) hk1]; rfl) sz_2 hO2 eI_len eI_one (by omega) (by omega) (by decide) (fun _ _ => GR_nil) (fun I3 hO3 => ?_)
          refine GT_nil ?_
          refine GE_inBlock ?_
          refine GE_slots (L' := [(1, _), (2, _), (3, _), (5, _)]) ⟨rfl, rfl, rfl, rfl, trivial⟩ ?_
          rw [trT_set hn51 (by omega)] at hO3
          refine GE_plain (.st 0 (.st 1 (.ld 2 [] .nil))) rfl ?_
          refine GT_st rfl rfl rfl rfl (V_move rfl rfl) ?_
          refine GT_st rfl rfl rfl rfl (V_add rfl rfl rfl (wrap_i64 (by omega))) ?_
          refine GT_ldv rfl rfl rfl rfl rfl (V_assign rfl rfl) (GR_nil) ?_
          refine GT_nil ?_
          exact GE_to (ih2 (k + 1, I3) ⟨by dsimp only; omega, by dsimp only; omega, hO3⟩ (by dsimp only; omega)) ⟨rfl, rfl, rfl, rfl, trivial⟩ HS.last
        · obtain rfl : k = n + 1 := (by omega)
          refine GE_exit rfl ?_
          refine GE_inBlock ?_
          refine GE_slots (L' := [(1, _), (5, _)]) ⟨rfl, rfl, trivial⟩ ?_
          refine GE_plain (.st 0 (.ld 1 [] .nil)) rfl ?_
          refine GT_st rfl rfl rfl rfl (V_add rfl rfl rfl (wrap_i64 (by omega))) ?_
          refine GT_ldv rfl rfl rfl rfl rfl (V_move rfl rfl) (GR_nil) ?_
          refine GT_nil ?_
          exact GE_to (ih (n + 1, I2) ⟨by dsimp only; omega, by rw [← trT_row]; exact hO2⟩ (by dsimp only; omega)) ⟨rfl, rfl, trivial⟩ HS.last
      · exact ⟨Nat.le_refl _, by omega, hO1⟩
    · obtain rfl : n = 51 := (by omega)
      refine GE_exit rfl ?_
      refine GE_seq ?_
      refine GE_plain (.st 0 (.st 1 .nil)) rfl ?_
      refine GT_st rfl rfl rfl rfl (V_move rfl rfl) ?_
      refine GT_st rfl rfl rfl rfl (V_assign rfl rfl) ?_
      refine GT_nil ?_
      refine GE_ret Try.func36 rfl (fun w hw => ?_)
      refine ⟨b4, trivial, rfl, ?_⟩; have hI := hO.full hl.symm; rw [hI] at hw; exact hw
  · exact ⟨Nat.zero_le _, Own.lit (by rw [trT_zero, flat_I, List.map_replicate]) (by rw [trT_len]) (by decide)⟩
end Go.Proofs.Ytfaggcmcfhljpaa
