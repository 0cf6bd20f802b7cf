/- Texts of this proof, one behind the other: Tf2, Tf3, Tf4, TaS, TaT. -/
import Derived.Test.YtogljfjbilndnaaGreatDoorMt9
import Derived.Test.YtogljfjbilndnaaGreatDoorMt8
import Derived.Test.YtogljfjbilndnaaGreatDoorMt4
import Derived.Test.YtogljfjbilndnaaGreatDoorMt6
/- Rings, and the correction of a curve, walked. -/
namespace Go.Proofs.YtogljfjbilndnaaGreatDoor.Side
open Go.Sx Go.Proofs Go.RowKit

theorem rem8 {k : Nat} (hk : k < 8) : ((k : Int) + 1).tmod 8 = (((k + 1) % 8 : Nat) : Int) := by
  rw [Int.tmod_eq_emod_of_nonneg (by omega)]; omega
theorem rem87 {k : Nat} (hk : k < 8) : ((k : Int) + 8 - 1 - 0).tmod 8 = (((k + 7) % 8 : Nat) : Int) := by
  rw [Int.tmod_eq_emod_of_nonneg (by omega)]; omega
theorem mul_bd {a b : Int} (ha : -4096 ≤ a ∧ a ≤ 4096) (hb : -100000 ≤ b ∧ b ≤ 100000) : -4096 * 100000 ≤ a * b ∧ a * b ≤ 4096 * 100000 := by
  have h := Int.natAbs_mul a b
  have h2 : a.natAbs * b.natAbs ≤ 4096 * 100000 := Nat.mul_le_mul (by omega) (by omega)
  rw [← h] at h2; omega
theorem tdiv256 (n : Int) : (n.tmod 256 < 0 → n.tdiv 256 - 1 = n / 256) ∧ (¬ n.tmod 256 < 0 → n.tdiv 256 = n / 256) := by
  rcases (show 0 ≤ n ∨ n < 0 by omega) with h | h
  · rw [Int.tmod_eq_emod_of_nonneg h, Int.tdiv_eq_ediv_of_nonneg h]; omega
  · obtain ⟨m, rfl⟩ : ∃ m, n = -m := ⟨-n, by omega⟩
    rw [Int.neg_tmod, Int.neg_tdiv, Int.tmod_eq_emod_of_nonneg (by omega), Int.tdiv_eq_ediv_of_nonneg (by omega)]; omega
section
variable {w w0 : World} {A A2 : Option Addr} {c c2 b q k : Nat} {cells : List Value} {H1 : Items}
def putL (cells : List Value) (q k : Nat) (n : Int) : List Value := (cells.set (q + k) (I n)).set (q + 8) (I (((k + 1) % 8 : Nat) : Int))
set_option maxRecDepth 10000 in
theorem C_put {n : Int} (m : SH w0 none' ((b, blk cells 207) :: H1) w) (hk : k < 8) (hq : cells[q + 8]? = some (I k)) (hl : q + 9 ≤ cells.length) :
    Ret Tryz.prog 112 [ptr b q, I n].toArray w fun r w' => ∃ _ : Unit, True ∧ r = .tuple #[] ∧ SH w0 none' ((b, blk (putL cells q k n) 207) :: H1) w' := by
  have hs : (cells.set (q + k) (I n))[q + 8]? = some (I k) := by rw [List.getElem?_set_ne (by omega)]; exact hq
  have hs2 : ((cells.set (q + k) (I n)).length) = cells.length := List.length_set
  refine Ret_ofH (vs := [_, _]) hm none' Tryz.func112 rfl Tryz.ntmps112 rfl m ?_
  dsimp only [slotsOf]
  refine GE_seq ?_
  refine GE_drawn (.st 0 (.st 1 (.st 2 (.st 3 (.st 4 (.st 5 (.st 6 (.st 7 (.st 8 (.ld 9 [] .nil)))))))))) [9] (by decide +kernel) ?_
  refine GT_st rfl rfl rfl rfl (V_move rfl rfl) ?_
  refine GT_st rfl rfl rfl rfl (V_move rfl rfl) ?_
  first | refine GT_st rfl rfl rfl rfl (V_nilCheck rfl rfl) ?_ | refine GT_st rfl rfl rfl rfl (V_nilCheck_func rfl rfl) ?_ | refine GT_st rfl rfl rfl rfl (V_nilCheck_yield rfl rfl) ?_
  first | refine GT_st rfl rfl rfl rfl (V_field rfl rfl fo_205_1) ?_ | refine GT_st rfl rfl rfl rfl (V_fieldA rfl rfl fo_205_1) ?_
  refine GT_st rfl rfl rfl rfl (V_load rfl rfl ag_3 (CellAt.item hq)) ?_
  refine GT_st rfl rfl rfl rfl (V_move rfl rfl) ?_
  first | refine GT_st rfl rfl rfl rfl (V_nilCheck rfl rfl) ?_ | refine GT_st rfl rfl rfl rfl (V_nilCheck_func rfl rfl) ?_ | refine GT_st rfl rfl rfl rfl (V_nilCheck_yield rfl rfl) ?_
  first | refine GT_st rfl rfl rfl rfl (V_field rfl rfl fo_205_0) ?_ | refine GT_st rfl rfl rfl rfl (V_fieldA rfl rfl fo_205_0) ?_
  first | refine GT_st rfl rfl rfl rfl (V_indexArr rfl rfl rfl Tryz.underlying203 sz_2 (kk := k) rfl hk) ?_ | refine GT_st rfl rfl rfl rfl (V_indexArrA rfl rfl rfl Tryz.underlying203 sz_2 (kk := k) rfl hk) ?_
  refine GT_store (b := b) (q := q + 0 + k * 1) (vs := [_]) (l := cells) (l' := cells.set (q + k) (I n)) rfl rfl rfl rfl rfl rfl rfl sz_2 rfl rfl (by simp only [List.length_singleton]; omega) (by simp [setsAt]) (GR_nil) ?_
  refine GT_nil ?_
  refine GE_slots (L' := [(0, _)]) ⟨rfl, trivial⟩ ?_
  refine GE_plain (.st 0 (.st 1 (.st 2 (.st 3 (.st 4 (.st 5 (.st 6 (.st 7 (.st 8 (.ld 9 [] .nil)))))))))) rfl ?_
  refine GT_st rfl rfl rfl rfl (V_move rfl rfl) ?_
  refine GT_st rfl rfl rfl rfl (V_move rfl rfl) ?_
  first | refine GT_st rfl rfl rfl rfl (V_nilCheck rfl rfl) ?_ | refine GT_st rfl rfl rfl rfl (V_nilCheck_func rfl rfl) ?_ | refine GT_st rfl rfl rfl rfl (V_nilCheck_yield rfl rfl) ?_
  first | refine GT_st rfl rfl rfl rfl (V_field rfl rfl fo_205_1) ?_ | refine GT_st rfl rfl rfl rfl (V_fieldA rfl rfl fo_205_1) ?_
  refine GT_st rfl rfl rfl rfl (V_load rfl rfl ag_3 (CellAt.item hs)) ?_
  refine GT_st rfl rfl rfl rfl (V_add rfl rfl rfl (wrap_i64 (by omega))) ?_
  refine GT_st rfl rfl rfl rfl (V_rem rfl rfl rfl (by omega)) ?_
  first | refine GT_st rfl rfl rfl rfl (V_nilCheck rfl rfl) ?_ | refine GT_st rfl rfl rfl rfl (V_nilCheck_func rfl rfl) ?_ | refine GT_st rfl rfl rfl rfl (V_nilCheck_yield rfl rfl) ?_
  first | refine GT_st rfl rfl rfl rfl (V_field rfl rfl fo_205_1) ?_ | refine GT_st rfl rfl rfl rfl (V_fieldA rfl rfl fo_205_1) ?_
  refine GT_store (b := b) (q := q + 8) (vs := [_]) (l := cells.set (q + k) (I n)) (l' := putL cells q k n) rfl rfl rfl rfl rfl rfl rfl sz_3 rfl rfl (by simp only [List.length_singleton]; omega) (by rw [rem8 hk]; rfl) (GR_nil) ?_
  refine GT_nil ?_
  refine GE_end Tryz.func112 rfl (fun w hw => ?_)
  exact ⟨(), trivial, rfl, hw⟩
set_option maxRecDepth 10000 in
theorem C_weigh {wt v : Int} (hb : BlkAt w b cells 207) (hA : RdL w 1 eN A [wt]) (hk : k < 8) (hn : cells[q + 8]? = some (I k)) (hv : cells[q + (k + 7) % 8]? = some (I v)) (hw1 : -4096 ≤ wt ∧ wt ≤ 4096) (hv1 : -100000 ≤ v ∧ v ≤ 100000) :
    Con0 Tryz.prog 133 [ptr b q, .slice A 1 c] w (I (wt * v)) := by
  have z1 : 0 < ([wt] : List Int).length := Nat.zero_lt_one
  have hmul : -4096 * 100000 ≤ wt * v ∧ wt * v ≤ 4096 * 100000 := mul_bd hw1 hv1
  refine Ret_of (vs := [_, _]) hm none' Tryz.func133 rfl Tryz.ntmps133 rfl ?_
  dsimp only [slotsOf]
  refine GE_seq ?_
  refine GE_plain (.st 0 .nil) rfl ?_
  refine GT_st rfl rfl rfl rfl (V_assign rfl rfl) ?_
  refine GT_nil ?_
  refine GE_seq ?_
  refine GE_plain (.st 0 .nil) rfl ?_
  refine GT_st rfl rfl rfl rfl (V_assign rfl rfl) ?_
  refine GT_nil ?_
  refine GE_seq ?_
  refine GE_seq ?_
  refine GE_plain (.st 0 (.st 1 (.st 2 .nil))) rfl ?_
  refine GT_st rfl rfl rfl rfl (V_move rfl rfl) ?_
  refine GT_st rfl rfl rfl rfl (V_len rfl Tryz.underlying38 rfl) ?_
  refine GT_st rfl rfl rfl rfl (V_move rfl rfl) ?_
  refine GT_nil ?_
  refine GE_block ?_
  refine GE_to (GE_loop (ι := Nat) (fun i => 1 - i) (fun i => [(0, ptr b q), (5, I (if i = 0 then 0 else wt * v)), (8, .slice A 1 c), (9, I 1), (10, I i)]) (fun i => []) (fun i => i ≤ 1) ?_ 0 ?_) ⟨rfl, rfl, rfl, rfl, rfl, trivial⟩ HS.nil
  · intro i hi ih
    refine GE_seq ?_
    refine GE_plain (.st 0 .nil) rfl ?_
    refine GT_st rfl rfl rfl rfl (V_lss rfl rfl rfl) ?_
    refine GT_nil ?_
    refine GE_seq ?_
    first | refine GE_condNot rfl (fun q1 => ?_) (fun q1 => ?_) | refine GE_cond rfl (fun q1 => ?_) (fun q1 => ?_) | refine GE_condNotB rfl (fun q1 => ?_) (fun q1 => ?_) | refine GE_condB rfl (fun q1 => ?_) (fun q1 => ?_)
    · obtain rfl : i = 0 := (by omega)
      refine GE_skip ?_
      refine GE_seq ?_
      refine GE_block ?_
      refine GE_seq ?_
      refine GE_plain (.st 0 (.st 1 (.st 2 (.st 3 (.st 4 .nil))))) rfl ?_
      refine GT_st rfl rfl rfl rfl (V_move rfl rfl) ?_
      refine GT_st rfl rfl rfl rfl (V_index rfl rfl rfl Tryz.underlying38 sz_2 (k := 0) rfl z1 (hA.isSome (k := 0) z1)) ?_
      refine GT_st rfl rfl rfl rfl (V_load rfl rfl ag_2 (show CellAt _ _ _ (I wt) from hA.at0 (k := 0) noM z1 rfl)) ?_
      refine GT_st rfl rfl rfl rfl (V_assign rfl rfl) ?_
      refine GT_st rfl rfl rfl rfl (V_assign rfl rfl) ?_
      refine GT_nil ?_
      refine GE_slots (L' := [(0, _), (5, _), (6, _), (7, _), (8, _), (9, _), (10, _)]) ⟨rfl, rfl, rfl, rfl, rfl, rfl, rfl, trivial⟩ ?_
      refine GE_drawn (.st 0 (.st 1 (.st 2 (.st 3 (.st 4 (.st 5 (.st 6 (.st 7 (.st 8 (.st 9 (.st 10 (.st 11 (.st 12 (.st 13 (.st 14 (.st 15 (.st 16 (.st 17 (.ld 18 [] .nil))))))))))))))))))) [18] (by decide +kernel) ?_
      refine GT_st rfl rfl rfl rfl (V_move rfl rfl) ?_
      refine GT_st rfl rfl rfl rfl (V_move rfl rfl) ?_
      refine GT_st rfl rfl rfl rfl (V_move rfl rfl) ?_
      refine GT_st rfl rfl rfl rfl (V_move rfl rfl) ?_
      first | refine GT_st rfl rfl rfl rfl (V_nilCheck rfl rfl) ?_ | refine GT_st rfl rfl rfl rfl (V_nilCheck_func rfl rfl) ?_ | refine GT_st rfl rfl rfl rfl (V_nilCheck_yield rfl rfl) ?_
      first | refine GT_st rfl rfl rfl rfl (V_field rfl rfl fo_205_1) ?_ | refine GT_st rfl rfl rfl rfl (V_fieldA rfl rfl fo_205_1) ?_
      refine GT_st rfl rfl rfl rfl (V_load rfl rfl ag_3 (CellAt.old (hb.cell hn) (noM _))) ?_
      refine GT_st rfl rfl rfl rfl (V_add rfl rfl rfl (wrap_i64 (by omega))) ?_
      refine GT_st rfl rfl rfl rfl (V_sub rfl rfl rfl (wrap_i64 (by omega))) ?_
      refine GT_st rfl rfl rfl rfl (V_move rfl rfl) ?_
      refine GT_st rfl rfl rfl rfl (V_sub rfl rfl rfl (wrap_i64 (by omega))) ?_
      refine GT_st rfl rfl rfl rfl (V_rem rfl rfl rfl (by omega)) ?_
      first | refine GT_st rfl rfl rfl rfl (V_nilCheck rfl rfl) ?_ | refine GT_st rfl rfl rfl rfl (V_nilCheck_func rfl rfl) ?_ | refine GT_st rfl rfl rfl rfl (V_nilCheck_yield rfl rfl) ?_
      first | refine GT_st rfl rfl rfl rfl (V_field rfl rfl fo_205_0) ?_ | refine GT_st rfl rfl rfl rfl (V_fieldA rfl rfl fo_205_0) ?_
      first | refine GT_st rfl rfl rfl rfl (V_indexArr rfl rfl rfl Tryz.underlying203 sz_2 (kk := (k + 7) % 8) (rem87 hk) (by omega)) ?_ | refine GT_st rfl rfl rfl rfl (V_indexArrA rfl rfl rfl Tryz.underlying203 sz_2 (kk := (k + 7) % 8) (rem87 hk) (by omega)) ?_
      refine GT_st rfl rfl rfl rfl (V_load rfl rfl ag_2 (show CellAt _ _ ⟨b, q + 0 + (k + 7) % 8 * 1, none⟩ (I v) from (show q + 0 + (k + 7) % 8 * 1 = q + (k + 7) % 8 by omega) ▸ CellAt.old (hb.cell hv) (noM _))) ?_
      refine GT_st rfl rfl rfl rfl (V_mul rfl rfl rfl (wrap_i64 (by omega))) ?_
      refine GT_st rfl rfl rfl rfl (V_add rfl rfl rfl ((wrap_i64 (show -9223372036854775808 ≤ 0 + wt * v ∧ 0 + wt * v ≤ 9223372036854775807 by omega)))) ?_
      refine GT_ldv rfl rfl rfl rfl rfl (V_assign rfl rfl) (GR_nil) ?_
      refine GT_nil ?_
      refine GE_inBlock ?_
      refine GE_slots (L' := [(0, _), (5, _), (8, _), (9, _), (10, _)]) ⟨rfl, rfl, rfl, rfl, rfl, trivial⟩ ?_
      refine GE_plain (.st 0 (.ld 1 [] .nil)) rfl ?_
      refine GT_st rfl rfl rfl rfl (V_add rfl rfl rfl (wrap_i64 (by omega))) ?_
      refine GT_ldv rfl rfl rfl rfl rfl (V_move rfl rfl) (GR_nil) ?_
      refine GT_nil ?_
      exact GE_to (ih 1 (Nat.le_refl _) (show 1 - 1 < 1 - 0 by decide)) ⟨rfl, lookI rfl (show 0 + wt * v = wt * v by omega), rfl, rfl, rfl, trivial⟩ HS.nil
    · obtain rfl : i = 1 := (by omega)
      refine GE_exit rfl ?_
      refine GE_seq ?_
      refine GE_slots (L' := [(5, _)]) ⟨rfl, trivial⟩ ?_
      refine GE_plain (.st 0 (.st 1 .nil)) rfl ?_
      refine GT_st rfl rfl rfl rfl (V_move rfl rfl) ?_
      refine GT_st rfl rfl rfl rfl (V_assign rfl rfl) ?_
      refine GT_nil ?_
      refine GE_ret Tryz.func133 rfl (fun w hw => ⟨?_, hw.nil⟩)
      rfl
  · exact Nat.zero_le _
theorem C_down {n : Int} (h : -1000000000000 ≤ n ∧ n ≤ 1000000000000) : Con0 Tryz.prog 132 [I n, I 256] w (I (n / 256)) := by
  have h1 := tdiv256 n
  refine Ret_of (vs := [_, _]) hm none' Tryz.func132 rfl Tryz.ntmps132 rfl ?_
  dsimp only [slotsOf]
  refine GE_seq ?_
  refine GE_plain (.st 0 .nil) rfl ?_
  refine GT_st rfl rfl rfl rfl (V_assign rfl rfl) ?_
  refine GT_nil ?_
  refine GE_seq ?_
  refine GE_plain (.st 0 (.st 1 (.st 2 (.st 3 .nil)))) rfl ?_
  refine GT_st rfl rfl rfl rfl (V_move rfl rfl) ?_
  refine GT_st rfl rfl rfl rfl (V_move rfl rfl) ?_
  refine GT_st rfl rfl rfl rfl (V_quo rfl rfl rfl (by omega) ((wrap_i64 (by omega)))) ?_
  refine GT_st rfl rfl rfl rfl (V_assign rfl rfl) ?_
  refine GT_nil ?_
  refine GE_seq ?_
  refine GE_seq ?_
  refine GE_slots (L' := [(0, _), (1, _), (5, _)]) ⟨rfl, rfl, rfl, trivial⟩ ?_
  refine GE_plain (.st 0 (.st 1 (.st 2 (.st 3 .nil)))) rfl ?_
  refine GT_st rfl rfl rfl rfl (V_move rfl rfl) ?_
  refine GT_st rfl rfl rfl rfl (V_move rfl rfl) ?_
  refine GT_st rfl rfl rfl rfl (V_rem rfl rfl rfl (by omega)) ?_
  refine GT_st rfl rfl rfl rfl (V_lss rfl rfl rfl) ?_
  refine GT_nil ?_
  first | refine GE_condNot rfl (fun q1 => ?_) (fun q1 => ?_) | refine GE_cond rfl (fun q1 => ?_) (fun q1 => ?_) | refine GE_condNotB rfl (fun q1 => ?_) (fun q1 => ?_) | refine GE_condB rfl (fun q1 => ?_) (fun q1 => ?_)
  · skip
    refine GE_slots (L' := [(5, _)]) ⟨rfl, trivial⟩ ?_
    refine GE_plain (.st 0 (.st 1 (.ld 2 [] .nil))) rfl ?_
    refine GT_st rfl rfl rfl rfl (V_move rfl rfl) ?_
    refine GT_st rfl rfl rfl rfl (V_sub rfl rfl rfl (wrap_i64 (by omega))) ?_
    refine GT_ldv rfl rfl rfl rfl rfl (V_assign rfl rfl) (GR_nil) ?_
    refine GT_nil ?_
    refine GE_seq ?_
    refine GE_plain (.st 0 (.st 1 .nil)) rfl ?_
    refine GT_st rfl rfl rfl rfl (V_move rfl rfl) ?_
    refine GT_st rfl rfl rfl rfl (V_assign rfl rfl) ?_
    refine GT_nil ?_
    refine GE_ret Tryz.func132 rfl (fun w hw => ⟨?_, hw.nil⟩)
    refine congrArg I ?_; omega
  · skip
    refine GE_skip ?_
    refine GE_seq ?_
    refine GE_slots (L' := [(5, _)]) ⟨rfl, trivial⟩ ?_
    refine GE_plain (.st 0 (.st 1 .nil)) rfl ?_
    refine GT_st rfl rfl rfl rfl (V_move rfl rfl) ?_
    refine GT_st rfl rfl rfl rfl (V_assign rfl rfl) ?_
    refine GT_nil ?_
    refine GE_ret Tryz.func132 rfl (fun w hw => ⟨?_, hw.nil⟩)
    refine congrArg I ?_; omega
end
end Go.Proofs.YtogljfjbilndnaaGreatDoor.Side
/- A curve on the example's numbers, walked. -/
namespace Go.Proofs.YtogljfjbilndnaaGreatDoor.Side
open Go.Sx Go.Proofs Go.RowKit

theorem putL_get {cells : List Value} {q k j : Nat} {n : Int} (h1 : j ≠ q + k) (h2 : j ≠ q + 8) : (putL cells q k n)[j]? = cells[j]? := by
  unfold putL; rw [List.getElem?_set_ne (by omega), List.getElem?_set_ne (by omega)]
theorem putL_len (cells : List Value) (q k : Nat) (n : Int) : (putL cells q k n).length = cells.length := by simp [putL]
/-- what a state's cells say at step k -/
structure StOk (cells : List Value) (k : Nat) (vi vo : Int) (AF AB : Option Addr) (cF cB : Nat) : Prop where
  len : cells.length = 21
  k4 : k < 8
  nO : cells[0 + 8]? = some (I k)
  nI : cells[9 + 8]? = some (I k)
  lO : cells[0 + (k + 7) % 8]? = some (I vo)
  lI : cells[9 + (k + 7) % 8]? = some (I vi)
  fd : cells[18]? = some (.slice AF 1 cF)
  bk : cells[19]? = some (.slice AB 1 cB)
  sh : cells[20]? = some (I 256)
  bi : -100000 ≤ vi ∧ vi ≤ 100000
  bo : -100000 ≤ vo ∧ vo ≤ 100000
section
variable {w w0 : World} {AF AB A : Option Addr} {cF cB c b b3 b5 bw k : Nat} {cells : List Value} {vi vo : Int} {H1 : Items}
set_option maxRecDepth 20000 in
theorem C_correction (hb : BlkAt w b cells 207) (hs : StOk cells k vi vo AF AB cF cB) (hF : RdL w 1 eN AF [64]) (hB : RdL w 1 eN AB [128]) : Con0 Tryz.prog 111 [ptr b 0] w (I ((64 * vi + 128 * vo) / 256)) := by
  have h1 := hs.bi
  have h2 := hs.bo
  refine Ret_of (vs := [_]) hm none' Tryz.func111 rfl Tryz.ntmps111 rfl ?_
  dsimp only [slotsOf]
  refine GE_seq ?_
  refine GE_plain (.st 0 .nil) rfl ?_
  refine GT_st rfl rfl rfl rfl (V_assign rfl rfl) ?_
  refine GT_nil ?_
  refine GE_seq ?_
  refine GE_drawn (.st 0 (.st 1 (.st 2 (.st 3 (.st 4 (.st 5 (.st 6 (.st 7 (.st 9 (.st 10 (.st 11 (.st 12 (.st 13 (.st 14 (.st 15 (.st 16 (.st 19 (.st 20 (.st 21 (.st 22 (.st 23 (.ld 8 [9, 10, 11, 12, 13, 14, 15, 16, 19, 20, 21, 22, 23] (.ld 17 [19, 20, 21, 22, 23] (.st 18 (.ld 24 [] (.st 25 .nil)))))))))))))))))))))))))) [8, 17, 24] (by decide +kernel) ?_
  refine GT_st rfl rfl rfl rfl (V_move rfl rfl) ?_
  first | refine GT_st rfl rfl rfl rfl (V_nilCheck rfl rfl) ?_ | refine GT_st rfl rfl rfl rfl (V_nilCheck_func rfl rfl) ?_ | refine GT_st rfl rfl rfl rfl (V_nilCheck_yield rfl rfl) ?_
  first | refine GT_st rfl rfl rfl rfl (V_field rfl rfl fo_207_1) ?_ | refine GT_st rfl rfl rfl rfl (V_fieldA rfl rfl fo_207_1) ?_
  refine GT_st rfl rfl rfl rfl (V_move rfl rfl) ?_
  first | refine GT_st rfl rfl rfl rfl (V_nilCheck rfl rfl) ?_ | refine GT_st rfl rfl rfl rfl (V_nilCheck_func rfl rfl) ?_ | refine GT_st rfl rfl rfl rfl (V_nilCheck_yield rfl rfl) ?_
  first | refine GT_st rfl rfl rfl rfl (V_field rfl rfl fo_207_2) ?_ | refine GT_st rfl rfl rfl rfl (V_fieldA rfl rfl fo_207_2) ?_
  first | refine GT_st rfl rfl rfl rfl (V_field rfl rfl fo_85_0) ?_ | refine GT_st rfl rfl rfl rfl (V_fieldA rfl rfl fo_85_0) ?_
  refine GT_st rfl rfl rfl rfl (V_load rfl rfl ag_38 (CellAt.old (hb.cell hs.fd) (noM _))) ?_
  refine GT_st rfl rfl rfl rfl (V_move rfl rfl) ?_
  first | refine GT_st rfl rfl rfl rfl (V_nilCheck rfl rfl) ?_ | refine GT_st rfl rfl rfl rfl (V_nilCheck_func rfl rfl) ?_ | refine GT_st rfl rfl rfl rfl (V_nilCheck_yield rfl rfl) ?_
  first | refine GT_st rfl rfl rfl rfl (V_field rfl rfl fo_207_0) ?_ | refine GT_st rfl rfl rfl rfl (V_fieldA rfl rfl fo_207_0) ?_
  refine GT_st rfl rfl rfl rfl (V_move rfl rfl) ?_
  first | refine GT_st rfl rfl rfl rfl (V_nilCheck rfl rfl) ?_ | refine GT_st rfl rfl rfl rfl (V_nilCheck_func rfl rfl) ?_ | refine GT_st rfl rfl rfl rfl (V_nilCheck_yield rfl rfl) ?_
  first | refine GT_st rfl rfl rfl rfl (V_field rfl rfl fo_207_2) ?_ | refine GT_st rfl rfl rfl rfl (V_fieldA rfl rfl fo_207_2) ?_
  first | refine GT_st rfl rfl rfl rfl (V_field rfl rfl fo_85_1) ?_ | refine GT_st rfl rfl rfl rfl (V_fieldA rfl rfl fo_85_1) ?_
  refine GT_st rfl rfl rfl rfl (V_load rfl rfl ag_38 (CellAt.old (hb.cell hs.bk) (noM _))) ?_
  refine GT_st rfl rfl rfl rfl (V_move rfl rfl) ?_
  first | refine GT_st rfl rfl rfl rfl (V_nilCheck rfl rfl) ?_ | refine GT_st rfl rfl rfl rfl (V_nilCheck_func rfl rfl) ?_ | refine GT_st rfl rfl rfl rfl (V_nilCheck_yield rfl rfl) ?_
  first | refine GT_st rfl rfl rfl rfl (V_field rfl rfl fo_207_2) ?_ | refine GT_st rfl rfl rfl rfl (V_fieldA rfl rfl fo_207_2) ?_
  first | refine GT_st rfl rfl rfl rfl (V_field rfl rfl fo_85_2) ?_ | refine GT_st rfl rfl rfl rfl (V_fieldA rfl rfl fo_85_2) ?_
  refine GT_st rfl rfl rfl rfl (V_load rfl rfl ag_2 (CellAt.old (hb.cell hs.sh) (noM _))) ?_
  refine GT_call0 rfl rfl rfl rfl rfl rfl rfl rfl rn_133 (fun w hw => C_weigh (q := 9) (hb.sh hw) (hF.sh hw) hs.k4 hs.nI hs.lI (by decide) h1) (GR_cons rfl rfl rfl rfl (V_move rfl rfl) (GR_cons rfl rfl rfl rfl ((by first | exact V_nilCheck rfl rfl | exact V_nilCheck_func rfl rfl | exact V_nilCheck_yield rfl rfl)) (GR_cons rfl rfl rfl rfl ((by first | exact V_field rfl rfl fo_207_0 | exact V_fieldA rfl rfl fo_207_0)) (GR_cons rfl rfl rfl rfl (V_move rfl rfl) (GR_cons rfl rfl rfl rfl ((by first | exact V_nilCheck rfl rfl | exact V_nilCheck_func rfl rfl | exact V_nilCheck_yield rfl rfl)) (GR_cons rfl rfl rfl rfl ((by first | exact V_field rfl rfl fo_207_2 | exact V_fieldA rfl rfl fo_207_2)) (GR_cons rfl rfl rfl rfl ((by first | exact V_field rfl rfl fo_85_1 | exact V_fieldA rfl rfl fo_85_1)) (GR_cons rfl rfl rfl rfl (V_load rfl rfl ag_38 (CellAt.old (hb.cell hs.bk) (noM _))) (GR_cons rfl rfl rfl rfl (V_move rfl rfl) (GR_cons rfl rfl rfl rfl ((by first | exact V_nilCheck rfl rfl | exact V_nilCheck_func rfl rfl | exact V_nilCheck_yield rfl rfl)) (GR_cons rfl rfl rfl rfl ((by first | exact V_field rfl rfl fo_207_2 | exact V_fieldA rfl rfl fo_207_2)) (GR_cons rfl rfl rfl rfl ((by first | exact V_field rfl rfl fo_85_2 | exact V_fieldA rfl rfl fo_85_2)) (GR_cons rfl rfl rfl rfl (V_load rfl rfl ag_2 (CellAt.old (hb.cell hs.sh) (noM _))) (GR_nil)))))))))))))) ?_
  refine GT_call0 rfl rfl rfl rfl rfl rfl rfl rfl rn_133 (fun w hw => C_weigh (q := 0) (hb.sh hw) (hB.sh hw) hs.k4 hs.nO hs.lO (by decide) h2) (GR_cons rfl rfl rfl rfl (V_move rfl rfl) (GR_cons rfl rfl rfl rfl ((by first | exact V_nilCheck rfl rfl | exact V_nilCheck_func rfl rfl | exact V_nilCheck_yield rfl rfl)) (GR_cons rfl rfl rfl rfl ((by first | exact V_field rfl rfl fo_207_2 | exact V_fieldA rfl rfl fo_207_2)) (GR_cons rfl rfl rfl rfl ((by first | exact V_field rfl rfl fo_85_2 | exact V_fieldA rfl rfl fo_85_2)) (GR_cons rfl rfl rfl rfl (V_load rfl rfl ag_2 (CellAt.old (hb.cell hs.sh) (noM _))) (GR_nil)))))) ?_
  refine GT_st rfl rfl rfl rfl (V_add rfl rfl rfl (wrap_i64 (by omega))) ?_
  refine GT_call0 rfl rfl rfl rfl rfl rfl rfl rfl rn_132 (fun w hw => C_down (by omega)) (GR_nil) ?_
  refine GT_st rfl rfl rfl rfl (V_assign rfl rfl) ?_
  refine GT_nil ?_
  refine GE_ret Tryz.func111 rfl (fun w hw => ⟨?_, hw.nil⟩)
  rfl
/-- the blocks of a step -/
abbrev stH (b b5 b3 : Nat) (cells : List Value) : Items := (b, blk cells 207) :: (b5, blk [ptr b 0] 202) :: (b3, blk [.bool false] 4) :: []
set_option maxRecDepth 20000 in
theorem C_step1 {n : Int} (m : SH w0 none' ((b, blk cells 207) :: (b5, blk [ptr b 0] 202) :: (b3, blk [.bool false] 4) :: H1) w) (hs : StOk cells k vi vo AF AB cF cB) (hF : RdL w0 1 eN AF [64]) (hB : RdL w0 1 eN AB [128]) (hn : -100000 ≤ n ∧ n ≤ 100000) :
    Ret Tryz.prog 110 [I n, ptr b3 0, ptr b5 0].toArray w fun r w' => ∃ _ : Unit, True ∧ r = I (n + (64 * vi + 128 * vo) / 256) ∧ SH w0 none' ((b, blk (putL (putL cells 9 k n) 0 k (n + (64 * vi + 128 * vo) / 256)) 207) :: (b5, blk [ptr b 0] 202) :: (b3, blk [.bool false] 4) :: H1) w' := by
  have h1 := hs.bi
  have h2 := hs.bo
  have h3 := hs.k4
  have hl := hs.len
  have hn0 : (putL cells 9 k n)[0 + 8]? = some (I k) := by rw [putL_get (by omega) (by omega)]; exact hs.nO
  have hl2 := putL_len cells 9 k n
  refine Ret_ofH (vs := [_, _, _]) hm none' Tryz.func110 rfl Tryz.ntmps110 rfl m ?_
  dsimp only [slotsOf]
  refine GE_seq ?_
  refine GE_plain (.st 0 .nil) rfl ?_
  refine GT_st rfl rfl rfl rfl (V_assign rfl rfl) ?_
  refine GT_nil ?_
  refine GE_seq ?_
  refine GE_plain (.st 0 (.st 1 (.st 2 (.st 3 .nil)))) rfl ?_
  refine GT_st rfl rfl rfl rfl (V_move rfl rfl) ?_
  refine GT_st rfl rfl rfl rfl (V_move rfl rfl) ?_
  refine GT_st rfl rfl rfl rfl (V_assign rfl rfl) ?_
  refine GT_st rfl rfl rfl rfl (V_assign rfl rfl) ?_
  refine GT_nil ?_
  refine GE_seq ?_
  refine GE_seq ?_
  refine GE_slots (L' := [(1, _), (2, _), (5, _), (6, _)]) ⟨rfl, rfl, rfl, rfl, trivial⟩ ?_
  refine GE_plain (.st 0 .nil) rfl ?_
  refine GT_st rfl rfl rfl rfl (V_load rfl rfl ag_4 (CellAt.item rfl)) ?_
  refine GT_nil ?_
  refine GE_cond_f rfl ?_
  refine GE_skip ?_
  refine GE_seq ?_
  refine GE_plain (.st 0 (.st 1 (.ld 2 [] (.st 3 (.ld 4 [] .nil))))) rfl ?_
  refine GT_st rfl rfl rfl rfl (V_move rfl rfl) ?_
  refine GT_st rfl rfl rfl rfl (V_load rfl rfl ag_202 (CellAt.item rfl)) ?_
  refine GT_call0 rfl rfl rfl rfl rfl rfl rfl rfl rn_111 (fun w hw => C_correction (BlkAt.of hw) hs (hF.sh hw) (hB.sh hw)) (GR_nil) ?_
  refine GT_st rfl rfl rfl rfl (V_add rfl rfl rfl (wrap_i64 (by omega))) ?_
  refine GT_ldv rfl rfl rfl rfl rfl (V_assign rfl rfl) (GR_nil) ?_
  refine GT_nil ?_
  refine GE_seq ?_
  refine GE_slots (L' := [(2, _), (5, _), (6, _)]) ⟨rfl, rfl, rfl, trivial⟩ ?_
  refine GE_plain (.st 0 (.st 1 (.st 2 (.st 3 (.ld 4 [] .nil))))) rfl ?_
  refine GT_st rfl rfl rfl rfl (V_load rfl rfl ag_202 (CellAt.item rfl)) ?_
  first | refine GT_st rfl rfl rfl rfl (V_nilCheck rfl rfl) ?_ | refine GT_st rfl rfl rfl rfl (V_nilCheck_func rfl rfl) ?_ | refine GT_st rfl rfl rfl rfl (V_nilCheck_yield rfl rfl) ?_
  first | refine GT_st rfl rfl rfl rfl (V_field rfl rfl fo_207_1) ?_ | refine GT_st rfl rfl rfl rfl (V_fieldA rfl rfl fo_207_1) ?_
  refine GT_st rfl rfl rfl rfl (V_move rfl rfl) ?_
  refine GT_callX rfl rfl rfl rfl rfl rfl rfl rfl rn_112 (fun w m => C_put (q := 9) (k := k) (m.hs (HS.cons rfl HS.all)) h3 hs.nI (by omega)) (fun _ _ => GR_nil) (fun _ _ => ?_)
  refine GT_nil ?_
  refine GE_seq ?_
  refine GE_slots (L' := [(2, _), (6, _)]) ⟨rfl, rfl, trivial⟩ ?_
  refine GE_plain (.st 0 (.st 1 (.st 2 (.st 3 (.ld 4 [] .nil))))) rfl ?_
  refine GT_st rfl rfl rfl rfl (V_load rfl rfl ag_202 (CellAt.item rfl)) ?_
  first | refine GT_st rfl rfl rfl rfl (V_nilCheck rfl rfl) ?_ | refine GT_st rfl rfl rfl rfl (V_nilCheck_func rfl rfl) ?_ | refine GT_st rfl rfl rfl rfl (V_nilCheck_yield rfl rfl) ?_
  first | refine GT_st rfl rfl rfl rfl (V_field rfl rfl fo_207_0) ?_ | refine GT_st rfl rfl rfl rfl (V_fieldA rfl rfl fo_207_0) ?_
  refine GT_st rfl rfl rfl rfl (V_move rfl rfl) ?_
  refine GT_callX rfl rfl rfl rfl rfl rfl rfl rfl rn_112 (fun w m => C_put (q := 0) (k := k) (m.hs (HS.cons rfl HS.all)) h3 hn0 (by omega)) (fun _ _ => GR_nil) (fun _ _ => ?_)
  refine GT_nil ?_
  refine GE_seq ?_
  refine GE_slots (L' := [(6, _)]) ⟨rfl, trivial⟩ ?_
  refine GE_plain (.st 0 (.st 1 .nil)) rfl ?_
  refine GT_st rfl rfl rfl rfl (V_move rfl rfl) ?_
  refine GT_st rfl rfl rfl rfl (V_assign rfl rfl) ?_
  refine GT_nil ?_
  refine GE_ret Tryz.func110 rfl (fun w hw => ?_)
  exact ⟨(), trivial, rfl, hw.hs (C := cx Tryz.prog hm 0 0 w0 none' fun _ _ => True) (HS.cons rfl (HS.cons rfl (HS.cons rfl (HS.last (I := H1)))))⟩
theorem C_within1 {n : Int} (h : -32767 ≤ n ∧ n ≤ 32767) (hb : BlkAt w bw [I 32767] 2) : Con0 Tryz.prog 113 [I n, ptr bw 0] w (.bool true) := by
  refine Ret_of (vs := [_, _]) hm none' Tryz.func113 rfl Tryz.ntmps113 rfl ?_
  dsimp only [slotsOf]
  refine GE_seq ?_
  refine GE_plain (.st 0 .nil) rfl ?_
  refine GT_st rfl rfl rfl rfl (V_assign rfl rfl) ?_
  refine GT_nil ?_
  refine GE_seq ?_
  refine GE_plain (.st 0 (.st 1 (.ld 2 [] (.st 3 (.st 4 .nil))))) rfl ?_
  refine GT_st rfl rfl rfl rfl (V_move rfl rfl) ?_
  first | refine GT_st rfl rfl rfl rfl (V_load rfl rfl ag_2 (CellAt.item rfl)) ?_ | refine GT_st rfl rfl rfl rfl (V_load rfl rfl ag_2 (CellAt.old (hb.cell rfl) (noM _))) ?_
  refine GT_call0 rfl rfl rfl rfl rfl rfl rfl rfl rn_114 (fun w hw => C_beyond ⟨by decide, h⟩) (GR_nil) ?_
  first | refine GT_st rfl rfl rfl rfl (V_not rfl rfl) ?_ | refine GT_st rfl rfl rfl rfl (V_notB rfl rfl) ?_
  refine GT_st rfl rfl rfl rfl (V_assign rfl rfl) ?_
  refine GT_nil ?_
  refine GE_ret Tryz.func113 rfl (fun w hw => ⟨?_, hw.nil⟩)
  rfl
theorem C_within : Con Tryz.prog 83 [I 32767] w (fun _ : Nat => True) (fun b => .func (.func 113) #[] #[ptr b 0]) (fun b => [(b, blk [I 32767] 2)]) := by
  refine Ret_of (vs := [_]) hm none' Tryz.func83 rfl Tryz.ntmps83 rfl ?_
  dsimp only [slotsOf]
  refine GE_seq ?_
  refine GE_plain (.ld 0 [] (.st 1 .nil)) rfl ?_
  refine GT_box (z := [_]) rfl rfl rfl rfl rfl rfl rfl (fun _ => GR_nil) (fun b1 => ?_)
  refine GT_st rfl rfl rfl rfl (V_assign rfl rfl) ?_
  refine GT_nil ?_
  refine GE_seq ?_
  refine GE_plain (.st 0 (.st 1 .nil)) rfl ?_
  refine GT_st rfl rfl rfl rfl (V_makeFunc rfl rfl rfl) ?_
  refine GT_st rfl rfl rfl rfl (V_assign rfl rfl) ?_
  refine GT_nil ?_
  refine GE_ret Tryz.func83 rfl (fun w hw => ?_)
  exact ⟨_, trivial, rfl, hw.hs (C := cx Tryz.prog hm 0 0 _ none' fun _ _ => True) (HS.cons rfl HS.nil)⟩
abbrev st0 (AF AB : Option Addr) (cF cB : Nat) : List Value := [I 0, I 0, I 0, I 0, I 0, I 0, I 0, I 0, I 0, I 0, I 0, I 0, I 0, I 0, I 0, I 0, I 0, I 0, .slice AF 1 cF, .slice AB 1 cB, I 256]
theorem C_step : Con Tryz.prog 82 [.agg #[.slice AF 1 cF, .slice AB 1 cB, I 256], .bool false] w (fun _ : Nat × Nat × Nat => True) (fun y => .func (.func 110) #[] #[ptr y.2.2 0, ptr y.2.1 0]) (fun y => stH y.1 y.2.1 y.2.2 (st0 AF AB cF cB)) := by
  refine Ret_of (vs := [_, _]) hm none' Tryz.func82 rfl Tryz.ntmps82 rfl ?_
  dsimp only [slotsOf]
  refine GE_seq ?_
  refine GE_plain (.ld 0 [] (.ld 1 [] (.st 2 .nil))) rfl ?_
  refine GT_box (z := [_, _, _]) rfl rfl rfl rfl rfl rfl rfl (fun _ => GR_nil) (fun b2 => ?_)
  refine GT_box (z := [_]) rfl rfl rfl rfl rfl rfl rfl (fun _ => GR_nil) (fun b3 => ?_)
  refine GT_st rfl rfl rfl rfl (V_assign rfl rfl) ?_
  refine GT_nil ?_
  refine GE_seq ?_
  refine GE_plain (.st 0 (.st 1 (.ld 2 [] (.ld 3 [] (.ld 4 [] .nil))))) rfl ?_
  refine GT_st rfl rfl rfl rfl (V_loadN (vs := [_, _, _]) rfl rfl ag_85 sz_85 rfl (CellsAt.item rfl)) ?_
  refine GT_st rfl rfl rfl rfl (V_build (vs := [_, _, _, _, _, _, _, _, _, _, _, _, _, _, _, _, _, _, _, _, _]) rfl rfl zc_207 pl_207 sa_207 rfl) ?_
  refine GT_box (z := [_, _, _, _, _, _, _, _, _, _, _, _, _, _, _, _, _, _, _, _, _]) rfl rfl rfl rfl rfl rfl rfl (fun _ => GR_nil) (fun b8 => ?_)
  refine GT_alloc rfl rfl rfl rfl rfl zc_202 (fun _ => GR_nil) (fun b5 => ?_)
  refine GT_store (vs := [_]) (l' := [_]) rfl rfl rfl rfl rfl rfl rfl sz_202 rfl rfl (Nat.le_of_ble_eq_true rfl) rfl (GR_nil) ?_
  refine GT_nil ?_
  refine GE_seq ?_
  refine GE_slots (L' := [(3, _), (5, _)]) ⟨rfl, rfl, trivial⟩ ?_
  refine GE_plain (.st 0 (.st 1 .nil)) rfl ?_
  refine GT_st rfl rfl rfl rfl (V_makeFunc rfl rfl rfl) ?_
  refine GT_st rfl rfl rfl rfl (V_assign rfl rfl) ?_
  refine GT_nil ?_
  refine GE_ret Tryz.func82 rfl (fun w hw => ?_)
  exact ⟨(b8, b5, b3), trivial, rfl, hw.hs (C := cx Tryz.prog hm 0 0 _ none' fun _ _ => True) (HS.cons rfl (HS.cons rfl (HS.cons rfl HS.nil)))⟩
end
end Go.Proofs.YtogljfjbilndnaaGreatDoor.Side
/- A curve on the example's numbers: Apply, walked. -/
namespace Go.Proofs.YtogljfjbilndnaaGreatDoor.Side
open Go.Sx Go.Proofs Go.RowKit

def xsE : List Int := [100, 0, 0, -3]
def ysE : List Int := [100, 75, 37, 15]
def viE : List Int := [0, 100, 0, 0]
def voE : List Int := [0, 100, 75, 37]
def exS (AF AB : Option Addr) (cF cB : Nat) : Nat → List Value
  | 0 => [I 0, I 0, I 0, I 0, I 0, I 0, I 0, I 0, I 0, I 0, I 0, I 0, I 0, I 0, I 0, I 0, I 0, I 0, .slice AF 1 cF, .slice AB 1 cB, I 256]
  | 1 => [I 100, I 0, I 0, I 0, I 0, I 0, I 0, I 0, I 1, I 100, I 0, I 0, I 0, I 0, I 0, I 0, I 0, I 1, .slice AF 1 cF, .slice AB 1 cB, I 256]
  | 2 => [I 100, I 75, I 0, I 0, I 0, I 0, I 0, I 0, I 2, I 100, I 0, I 0, I 0, I 0, I 0, I 0, I 0, I 2, .slice AF 1 cF, .slice AB 1 cB, I 256]
  | 3 => [I 100, I 75, I 37, I 0, I 0, I 0, I 0, I 0, I 3, I 100, I 0, I 0, I 0, I 0, I 0, I 0, I 0, I 3, .slice AF 1 cF, .slice AB 1 cB, I 256]
  | _ => [I 100, I 75, I 37, I 15, I 0, I 0, I 0, I 0, I 4, I 100, I 0, I 0, I (-3), I 0, I 0, I 0, I 0, I 4, .slice AF 1 cF, .slice AB 1 cB, I 256]
section
variable {AF AB : Option Addr} {cF cB k : Nat}
theorem exOk (hk : k < 4) : StOk (exS AF AB cF cB k) k (viE.getD k 0) (voE.getD k 0) AF AB cF cB := by
  rcases (show k = 0 ∨ k = 1 ∨ k = 2 ∨ k = 3 by omega) with rfl | rfl | rfl | rfl <;> exact ⟨rfl, by decide, rfl, rfl, rfl, rfl, rfl, rfl, rfl, by decide, by decide⟩
theorem exY (hk : k < 4) : xsE.getD k 0 + (64 * viE.getD k 0 + 128 * voE.getD k 0) / 256 = ysE.getD k 0 := by
  rcases (show k = 0 ∨ k = 1 ∨ k = 2 ∨ k = 3 by omega) with rfl | rfl | rfl | rfl <;> decide
theorem exStep (hk : k < 4) : putL (putL (exS AF AB cF cB k) 9 k (xsE.getD k 0)) 0 k (ysE.getD k 0) = exS AF AB cF cB (k + 1) := by
  rcases (show k = 0 ∨ k = 1 ∨ k = 2 ∨ k = 3 by omega) with rfl | rfl | rfl | rfl <;> rfl
theorem xsE_bd (hk : k < 4) : -32767 ≤ xsE.getD k 0 ∧ xsE.getD k 0 ≤ 32767 := by
  rcases (show k = 0 ∨ k = 1 ∨ k = 2 ∨ k = 3 by omega) with rfl | rfl | rfl | rfl <;> decide
theorem ysE_bd (hk : k < 4) : -32767 ≤ ysE.getD k 0 ∧ ysE.getD k 0 ≤ 32767 := by
  rcases (show k = 0 ∨ k = 1 ∨ k = 2 ∨ k = 3 by omega) with rfl | rfl | rfl | rfl <;> decide
theorem ysE_take (hk : k < 4) : ysE.take k ++ [ysE.getD k 0] = ysE.take (k + 1) := by
  rcases (show k = 0 ∨ k = 1 ∨ k = 2 ∨ k = 3 by omega) with rfl | rfl | rfl | rfl <;> rfl
theorem ysE_len (hk : k ≤ 4) : (ysE.take k).length = k := by rw [List.length_take]; show min k 4 = k; omega
end
section
variable {w w0 : World} {AF AB A AX : Option Addr} {cF cB c cX b b3 b5 bw : Nat} {IX H1 : Items}
set_option maxRecDepth 20000 in
theorem C_each (m : SH w0 none' ((b, blk (exS AF AB cF cB 0) 207) :: (b5, blk [ptr b 0] 202) :: (b3, blk [.bool false] 4) :: (bw, blk [I 32767] 2) :: (IX ++ H1)) w) (hX : Own 1 2 eN xsE (.slice A 4 c) IX) (hF : RdL w0 1 eN AF [64]) (hB : RdL w0 1 eN AB [128]) :
    Ret Tryz.prog 81 [.slice A 4 c, .func (.func 110) #[] #[ptr b3 0, ptr b5 0], .func (.func 113) #[] #[ptr bw 0]].toArray w fun r w' => ∃ y : Option Addr × Nat × Items, Own 1 2 eN ysE (.slice y.1 4 y.2.1) y.2.2 ∧ r = .tuple #[.slice y.1 4 y.2.1, I 0] ∧ SH w0 none' (y.2.2 ++ H1) w' := by
  refine Ret_ofH (vs := [_, _, _]) hm none' Tryz.func81 rfl Tryz.ntmps81 rfl m ?_
  dsimp only [slotsOf]
  refine GE_seq ?_
  refine GE_plain (.st 0 (.st 1 .nil)) rfl ?_
  refine GT_st rfl rfl rfl rfl (V_assign rfl rfl) ?_
  refine GT_st rfl rfl rfl rfl (V_assign rfl rfl) ?_
  refine GT_nil ?_
  refine GE_seq ?_
  refine GE_plain (.st 0 (.st 1 (.ld 2 [] (.st 3 .nil)))) rfl ?_
  refine GT_st rfl rfl rfl rfl (V_move rfl rfl) ?_
  refine GT_st rfl rfl rfl rfl (V_len rfl Tryz.underlying38 rfl) ?_
  refine GT_makeSliceC (mm := 0) (nn := 4) rfl rfl rfl rfl rfl rfl rfl Tryz.underlying38 zc_2 sz_2 by_2 ⟨rfl, rfl, rfl⟩ (by decide) (by decide) (fun _ => GR_nil) (fun b14 => ?_)
  refine GT_st rfl rfl rfl rfl (V_assign rfl rfl) ?_
  refine GT_nil ?_
  refine GE_seq ?_
  refine GE_seq ?_
  refine GE_slots (L' := [(0, _), (1, _), (2, _), (8, _)]) ⟨rfl, rfl, rfl, rfl, trivial⟩ ?_
  refine GE_plain (.st 0 (.st 1 (.st 2 .nil))) rfl ?_
  refine GT_st rfl rfl rfl rfl (V_move rfl rfl) ?_
  refine GT_st rfl rfl rfl rfl (V_len rfl Tryz.underlying38 rfl) ?_
  refine GT_st rfl rfl rfl rfl (V_move rfl rfl) ?_
  refine GT_nil ?_
  refine GE_block ?_
  refine GE_to (GE_loop (ι := Nat × (Option Addr × Nat × Items)) (fun z => 4 - z.1) (fun z => [(1, .func (.func 110) #[] #[ptr b3 0, ptr b5 0]), (2, .func (.func 113) #[] #[ptr bw 0]), (8, .slice z.2.1 z.1 z.2.2.1), (15, .slice A 4 c), (16, I 4), (17, I z.1)]) (fun z => (b, blk (exS AF AB cF cB z.1) 207) :: (b5, blk [ptr b 0] 202) :: (b3, blk [.bool false] 4) :: (bw, blk [I 32767] 2) :: (IX ++ (z.2.2.2 ++ H1))) (fun z => z.1 ≤ 4 ∧ Own 1 2 eN (ysE.take z.1) (.slice z.2.1 z.1 z.2.2.1) z.2.2.2) ?_ (0, (some ⟨b14, 0, none⟩, 4, [(b14, blk ((List.replicate 4 [I 0]).flatten) 2)])) ?_) ⟨rfl, rfl, rfl, rfl, rfl, rfl, trivial⟩ (HS.cons rfl (HS.cons rfl (HS.cons rfl (HS.cons rfl (HS.chunk (HS.cons rfl (HS.last (I := H1))))))))
  · rintro ⟨k, y⟩ ⟨hk, hO⟩ ih; dsimp only at hk hO ih ⊢
    refine GE_seq ?_
    refine GE_plain (.st 0 .nil) rfl ?_
    refine GT_st rfl rfl rfl rfl (V_lss rfl rfl rfl) ?_
    refine GT_nil ?_
    refine GE_seq ?_
    first | refine GE_condNot rfl (fun q1 => ?_) (fun q1 => ?_) | refine GE_cond rfl (fun q1 => ?_) (fun q1 => ?_) | refine GE_condNotB rfl (fun q1 => ?_) (fun q1 => ?_) | refine GE_condB rfl (fun q1 => ?_) (fun q1 => ?_)
    · have hk4 : k < 4 := (by omega)
      refine GE_skip ?_
      refine GE_seq ?_
      refine GE_block ?_
      refine GE_seq ?_
      refine GE_plain (.st 0 (.st 1 (.st 2 .nil))) rfl ?_
      refine GT_st rfl rfl rfl rfl (V_index rfl rfl rfl Tryz.underlying38 sz_2 (k := k) rfl hk4 (hX.isSome (k := k) hk4)) ?_
      refine GT_st rfl rfl rfl rfl (V_load rfl rfl ag_2 (CellAt.own0 (k := k) hX eN_len hk4 (show _ = some (I (xsE.getD k 0)) from rfl))) ?_
      refine GT_st rfl rfl rfl rfl (V_assign rfl rfl) ?_
      refine GT_nil ?_
      refine GE_seq ?_
      refine GE_plain (.st 0 (.st 1 (.ld 2 [] (.st 3 .nil)))) rfl ?_
      refine GT_st rfl rfl rfl rfl (V_move rfl rfl) ?_
      refine GT_st rfl rfl rfl rfl (V_move rfl rfl) ?_
      refine GT_callX rfl rfl rfl rfl rfl rfl rfl rfl rn_110 (fun w m => C_step1 (b := b) (b5 := b5) (b3 := b3) (cells := exS AF AB cF cB k) (n := xsE.getD k 0) (m.hs (HS.cons rfl (HS.cons rfl (HS.cons rfl HS.all)))) (exOk hk4) hF hB (by have := xsE_bd hk4; omega)) (fun _ _ => GR_nil) (fun _ _ => ?_)
      rw [exY hk4, exStep hk4]
      refine GT_st rfl rfl rfl rfl (V_assign rfl rfl) ?_
      refine GT_nil ?_
      refine GE_seq ?_
      refine GE_seq ?_
      refine GE_slots (L' := [(1, _), (2, _), (8, _), (11, _), (15, _), (16, _), (17, _)]) ⟨rfl, rfl, rfl, rfl, rfl, rfl, rfl, trivial⟩ ?_
      refine GE_plain (.st 0 (.st 1 (.ld 2 [] (.st 3 .nil)))) rfl ?_
      refine GT_st rfl rfl rfl rfl (V_move rfl rfl) ?_
      refine GT_st rfl rfl rfl rfl (V_move rfl rfl) ?_
      refine GT_call0 rfl rfl rfl rfl rfl rfl rfl rfl rn_113 (fun w hw => C_within1 (ysE_bd hk4) (BlkAt.of hw)) (GR_nil) ?_
      first | refine GT_st rfl rfl rfl rfl (V_not rfl rfl) ?_ | refine GT_st rfl rfl rfl rfl (V_notB rfl rfl) ?_
      refine GT_nil ?_
      refine GE_cond_f rfl ?_
      refine GE_skip ?_
      refine GE_slots (L' := [(1, _), (2, _), (8, _), (11, _), (15, _), (16, _), (17, _)]) ⟨rfl, rfl, rfl, rfl, rfl, rfl, rfl, trivial⟩ ?_
      refine GE_plain (.st 0 (.st 1 (.ld 2 [] (.ld 3 [] (.ld 4 [] .nil))))) rfl ?_
      refine GT_st rfl rfl rfl rfl (V_move rfl rfl) ?_
      refine GT_st rfl rfl rfl rfl (V_move rfl rfl) ?_
      refine GT_buildSlice (z := [_]) rfl rfl rfl rfl rfl Tryz.underlying38 zc_2 sz_2 (by decide) rfl rfl (fun _ => GR_nil) (fun b30 => ?_)
      refine GT_append (enc := eN) (l := ysE.take k) (m := [ysE.getD k 0]) rfl rfl rfl rfl rfl rfl rfl hO (fun w m => RdL.own' m eN_len) Tryz.underlying38 zc_2 sz_2 ⟨rfl, by decide⟩ by_2 ⟨by rw [ysE_len hk]; simp only [List.length_singleton]; omega, by rw [ysE_len hk]; simp only [List.length_singleton]; omega⟩ eN_len eN_one (fun _ _ _ _ => GR_nil) (fun A3 c3 I3 hO3 => ?_)
      rw [ysE_take hk4, ysE_len (k := k + 1) (by omega)] at hO3 ⊢
      refine GT_ldv rfl rfl rfl rfl rfl (V_assign rfl rfl) (GR_nil) ?_
      refine GT_nil ?_
      refine GE_inBlock ?_
      refine GE_slots (L' := [(1, _), (2, _), (8, _), (15, _), (16, _), (17, _)]) ⟨rfl, rfl, rfl, rfl, rfl, rfl, trivial⟩ ?_
      refine GE_plain (.st 0 (.ld 1 [] .nil)) rfl ?_
      refine GT_st rfl rfl rfl rfl (V_add rfl rfl rfl (wrap_i64 (by omega))) ?_
      refine GT_ldv rfl rfl rfl rfl rfl (V_move rfl rfl) (GR_nil) ?_
      refine GT_nil ?_
      exact GE_to (ih (k + 1, (A3, c3, I3)) ⟨by dsimp only; omega, hO3⟩ (by dsimp only; omega)) ⟨rfl, rfl, rfl, rfl, rfl, rfl, trivial⟩ (HS.cons rfl (HS.cons rfl (HS.cons rfl (HS.cons rfl (HS.chunk (HS.chunk (HS.last (I := H1))))))))
    · obtain rfl : k = 4 := (by omega)
      refine GE_exit rfl ?_
      refine GE_seq ?_
      refine GE_slots (L' := [(8, _)]) ⟨rfl, trivial⟩ ?_
      refine GE_plain (.st 0 (.st 1 (.st 2 .nil))) rfl ?_
      refine GT_st rfl rfl rfl rfl (V_move rfl rfl) ?_
      refine GT_st rfl rfl rfl rfl (V_assign rfl rfl) ?_
      refine GT_st rfl rfl rfl rfl (V_assign rfl rfl) ?_
      refine GT_nil ?_
      refine GE_ret Tryz.func81 ⟨_, _, rfl, rfl, rfl⟩ (fun w hw => ?_)
      exact ⟨y, hO, rfl, hw.hs (C := cx Tryz.prog hm 0 0 w0 none' fun _ _ => True) (HS.chunk (HS.last (I := H1)))⟩
  · exact ⟨Nat.zero_le _, .inr ⟨b14, 4, [I 0, I 0, I 0, I 0], rfl, rfl, rfl, Nat.zero_le _, by unfold maxLen; decide⟩⟩
theorem C_CloneL (h : RdL w 1 eN A xsE) (hA : A.isSome = true) : Con Tryz.prog 80 [.slice A 4 c] w (fun y : Option Addr × Nat × Items => Own 1 2 eN xsE (.slice y.1 4 y.2.1) y.2.2) (fun y => .slice y.1 4 y.2.1) (fun y => y.2.2) := by
  obtain ⟨a, rfl⟩ := Option.isSome_iff_exists.1 hA
  refine Ret_of (vs := [_]) hm none' Tryz.func80 rfl Tryz.ntmps80 rfl ?_
  dsimp only [slotsOf]
  refine GE_seq ?_
  refine GE_plain (.st 0 .nil) rfl ?_
  refine GT_st rfl rfl rfl rfl (V_assign rfl rfl) ?_
  refine GT_nil ?_
  refine GE_seq ?_
  refine GE_seq ?_
  refine GE_plain (.st 0 (.st 1 .nil)) rfl ?_
  refine GT_st rfl rfl rfl rfl (V_move rfl rfl) ?_
  refine GT_st rfl rfl rfl rfl (V_eqlNilF rfl rfl rfl Tryz.underlying38) ?_
  refine GT_nil ?_
  refine GE_cond_f rfl ?_
  refine GE_skip ?_
  refine GE_seq ?_
  refine GE_plain (.ld 0 [] (.st 1 (.ld 2 [] (.st 3 .nil)))) rfl ?_
  refine GT_buildSlice (z := []) rfl rfl rfl rfl rfl Tryz.underlying38 zc_2 sz_2 (by decide) rfl rfl (fun _ => GR_nil) (fun b5 => ?_)
  have ho5 : Own 1 2 eN [] (.slice (some ⟨b5, 0, none⟩) 0 0) [(b5, blk [] 2)] := Own.lit rfl rfl (by decide)
  refine GT_st rfl rfl rfl rfl (V_move rfl rfl) ?_
  refine GT_append (enc := eN) (l := []) (m := xsE) rfl rfl rfl rfl rfl rfl rfl ho5 (fun w m => h.sh m) Tryz.underlying38 zc_2 sz_2 ⟨rfl, by decide⟩ by_2 ⟨by decide, by decide⟩ eN_len eN_one (fun _ _ _ _ => GR_nil) (fun A3 c3 I3 hO3 => ?_)
  refine GT_st rfl rfl rfl rfl (V_assign rfl rfl) ?_
  refine GT_nil ?_
  refine GE_ret Tryz.func80 rfl (fun w hw => ?_)
  exact ⟨(A3, c3, I3), hO3, rfl, hw.hs (C := cx Tryz.prog hm 0 0 _ none' fun _ _ => True) HS.last⟩
set_option maxRecDepth 20000 in
theorem C_chain {bc : Nat} (hF : RdL w 1 eN AF [64]) (hB : RdL w 1 eN AB [128]) (hb : BlkAt w bc [.slice AF 1 cF, .slice AB 1 cB, I 256] 85) (hX : RdL w 1 eN AX xsE) (hA : AX.isSome = true) :
    Con Tryz.prog 48 [.slice (some ⟨bc, 0, none⟩) 1 1, .slice AX 4 cX, .bool false] w (fun y : Option Addr × Nat × Items => Own 1 2 eN ysE (.slice y.1 4 y.2.1) y.2.2) (fun y => .tuple #[.slice y.1 4 y.2.1, I 0]) (fun y => y.2.2) := by
  refine Ret_of (vs := [_, _, _]) hm none' Tryz.func48 rfl Tryz.ntmps48 rfl ?_
  dsimp only [slotsOf]
  refine GE_seq ?_
  refine GE_plain (.st 0 (.st 1 .nil)) rfl ?_
  refine GT_st rfl rfl rfl rfl (V_assign rfl rfl) ?_
  refine GT_st rfl rfl rfl rfl (V_assign rfl rfl) ?_
  refine GT_nil ?_
  refine GE_seq ?_
  refine GE_seq ?_
  refine GE_plain (.st 0 (.ld 1 [] (.st 2 .nil))) rfl ?_
  refine GT_st rfl rfl rfl rfl (V_move rfl rfl) ?_
  refine GT_call0 rfl rfl rfl rfl rfl rfl rfl rfl rn_78 (fun w hw => C_checkChain (hF.sh hw) (hB.sh hw) (hb.sh hw)) (GR_nil) ?_
  refine GT_st rfl rfl rfl rfl (V_assign rfl rfl) ?_
  refine GT_nil ?_
  refine GE_seq ?_
  refine GE_slots (L' := [(0, _), (1, _), (2, _), (8, _)]) ⟨rfl, rfl, rfl, rfl, trivial⟩ ?_
  refine GE_plain (.st 0 (.st 1 .nil)) rfl ?_
  refine GT_st rfl rfl rfl rfl (V_move rfl rfl) ?_
  refine GT_st rfl rfl rfl rfl (V_isF (V_neq rfl rfl rfl) (fun q => q rfl)) ?_
  refine GT_nil ?_
  refine GE_cond_f rfl ?_
  refine GE_skip ?_
  refine GE_seq ?_
  refine GE_seq ?_
  refine GE_plain (.st 0 (.ld 1 [] (.st 2 .nil))) rfl ?_
  refine GT_st rfl rfl rfl rfl (V_move rfl rfl) ?_
  refine GT_call0 rfl rfl rfl rfl rfl rfl rfl rfl rn_79 (fun w hw => C_checkSignal (l := xsE) (hX.sh hw) (by decide) (by decide)) (GR_nil) ?_
  refine GT_st rfl rfl rfl rfl (V_assign rfl rfl) ?_
  refine GT_nil ?_
  refine GE_seq ?_
  refine GE_slots (L' := [(0, _), (1, _), (2, _), (9, _)]) ⟨rfl, rfl, rfl, rfl, trivial⟩ ?_
  refine GE_plain (.st 0 (.st 1 .nil)) rfl ?_
  refine GT_st rfl rfl rfl rfl (V_move rfl rfl) ?_
  refine GT_st rfl rfl rfl rfl (V_isF (V_neq rfl rfl rfl) (fun q => q rfl)) ?_
  refine GT_nil ?_
  refine GE_cond_f rfl ?_
  refine GE_skip ?_
  refine GE_seq ?_
  refine GE_plain (.st 0 (.ld 1 [] (.ld 2 [] .nil))) rfl ?_
  refine GT_st rfl rfl rfl rfl (V_move rfl rfl) ?_
  refine GT_call rfl rfl rfl rfl rfl rfl rfl rfl rn_80 (fun w hw => C_CloneL (hX.sh hw) hA) (fun _ _ => GR_nil) (fun y0 hy0 => ?_)
  refine GT_ldv rfl rfl rfl rfl rfl (V_assign rfl rfl) (GR_nil) ?_
  refine GT_nil ?_
  refine GE_seq ?_
  refine GE_seq ?_
  refine GE_slots (L' := [(0, _), (1, _), (2, _)]) ⟨rfl, rfl, rfl, trivial⟩ ?_
  refine GE_plain (.st 0 (.st 1 (.st 2 .nil))) rfl ?_
  refine GT_st rfl rfl rfl rfl (V_move rfl rfl) ?_
  refine GT_st rfl rfl rfl rfl (V_len rfl Tryz.underlying125 rfl) ?_
  refine GT_st rfl rfl rfl rfl (V_move rfl rfl) ?_
  refine GT_nil ?_
  refine GE_block ?_
  refine GE_to (GE_loop (ι := Nat × (Option Addr × Nat × Items)) (fun z => 1 - z.1) (fun z => [(0, .slice (some ⟨bc, 0, none⟩) 1 1), (1, .slice z.2.1 4 z.2.2.1), (2, .bool false), (27, I 1), (28, I z.1)]) (fun z => z.2.2.2) (fun z => z.1 ≤ 1 ∧ Own 1 2 eN (if z.1 = 0 then xsE else ysE) (.slice z.2.1 4 z.2.2.1) z.2.2.2) ?_ (0, y0) ?_) ⟨rfl, rfl, rfl, rfl, rfl, trivial⟩ HS.last
  · rintro ⟨k, y⟩ ⟨hk, hO⟩ ih; dsimp only at hk hO ih ⊢
    refine GE_seq ?_
    refine GE_plain (.st 0 .nil) rfl ?_
    refine GT_st rfl rfl rfl rfl (V_lss rfl rfl rfl) ?_
    refine GT_nil ?_
    refine GE_seq ?_
    first | refine GE_condNot rfl (fun q1 => ?_) (fun q1 => ?_) | refine GE_cond rfl (fun q1 => ?_) (fun q1 => ?_) | refine GE_condNotB rfl (fun q1 => ?_) (fun q1 => ?_) | refine GE_condB rfl (fun q1 => ?_) (fun q1 => ?_)
    · obtain rfl : k = 0 := (by omega)
      refine GE_skip ?_
      refine GE_seq ?_
      refine GE_block ?_
      refine GE_seq ?_
      refine GE_plain (.st 0 (.st 1 .nil)) rfl ?_
      refine GT_st rfl rfl rfl rfl (V_move rfl rfl) ?_
      refine GT_st rfl rfl rfl rfl (V_assign rfl rfl) ?_
      refine GT_nil ?_
      refine GE_seq ?_
      refine GE_plain (.st 0 (.st 1 (.st 2 (.st 3 (.ld 4 [] (.ld 5 [] .nil)))))) rfl ?_
      refine GT_st rfl rfl rfl rfl (V_move rfl rfl) ?_
      refine GT_st rfl rfl rfl rfl (V_move rfl rfl) ?_
      refine GT_st rfl rfl rfl rfl (V_index rfl rfl rfl Tryz.underlying125 sz_85 (k := 0) rfl Nat.zero_lt_one rfl) ?_
      refine GT_st rfl rfl rfl rfl (V_loadN (vs := [_, _, _]) rfl rfl ag_85 sz_85 rfl (show CellsAt _ _ ⟨bc, 0 * 3, none⟩ [.slice AF 1 cF, .slice AB 1 cB, I 256] from fun j v hj => by rw [add_lit, Nat.zero_mul, Nat.zero_add]; exact CellAt.old (hb.cell hj) (noM _))) ?_
      refine GT_alloc rfl rfl rfl rfl rfl zc_85 (fun _ => GR_nil) (fun b11 => ?_)
      refine GT_store (vs := [_, _, _]) (l' := [_, _, _]) rfl rfl rfl rfl rfl rfl rfl sz_85 rfl rfl (Nat.le_of_ble_eq_true rfl) rfl (GR_nil) ?_
      refine GT_nil ?_
      refine GE_seq ?_
      refine GE_seq ?_
      refine GE_slots (L' := [(0, _), (1, _), (2, _), (10, _), (11, _), (27, _), (28, _)]) ⟨rfl, rfl, rfl, rfl, rfl, rfl, rfl, trivial⟩ ?_
      refine GE_plain (.st 0 .nil) rfl ?_
      refine GT_st rfl rfl rfl rfl (V_move rfl rfl) ?_
      refine GT_nil ?_
      refine GE_cond_f rfl ?_
      refine GE_skip ?_
      refine GE_seq ?_
      refine GE_plain (.st 0 (.st 1 (.st 2 (.ld 3 [] (.ld 4 [] (.ld 5 [] (.st 6 (.st 7 (.st 8 (.st 9 (.st 10 .nil))))))))))) rfl ?_
      refine GT_st rfl rfl rfl rfl (V_move rfl rfl) ?_
      refine GT_st rfl rfl rfl rfl (V_loadN (vs := [_, _, _]) rfl rfl ag_85 sz_85 rfl (CellsAt.item rfl)) ?_
      refine GT_st rfl rfl rfl rfl (V_move rfl rfl) ?_
      refine GT_call rfl rfl rfl rfl rfl rfl rfl rfl rn_82 (fun w hw => C_step) (fun _ _ => GR_nil) (fun s _ => ?_)
      refine GT_call rfl rfl rfl rfl rfl rfl rfl rfl rn_83 (fun w hw => C_within) (fun _ _ => GR_nil) (fun bw _ => ?_)
      refine GT_callX rfl rfl rfl rfl rfl rfl rfl rfl rn_81 (fun w m => C_each (b := s.1) (b5 := s.2.1) (b3 := s.2.2) (bw := bw) (IX := y.2.2) (m.hs (HS.cons rfl (HS.cons rfl (HS.cons rfl (HS.cons rfl (HS.chunk HS.all)))))) hO hF hB) (fun _ _ => GR_nil) (fun y50 hy50 => ?_)
      refine GT_st rfl rfl rfl rfl (V_move rfl rfl) ?_
      refine GT_st rfl rfl rfl rfl (V_extract rfl rfl rfl) ?_
      refine GT_st rfl rfl rfl rfl (V_extract rfl rfl rfl) ?_
      refine GT_st rfl rfl rfl rfl (V_assign rfl rfl) ?_
      refine GT_st rfl rfl rfl rfl (V_assign rfl rfl) ?_
      refine GT_nil ?_
      refine GE_seq ?_
      refine GE_seq ?_
      refine GE_slots (L' := [(0, _), (2, _), (12, _), (13, _), (27, _), (28, _)]) ⟨rfl, rfl, rfl, rfl, rfl, rfl, trivial⟩ ?_
      refine GE_plain (.st 0 (.st 1 .nil)) rfl ?_
      refine GT_st rfl rfl rfl rfl (V_move rfl rfl) ?_
      refine GT_st rfl rfl rfl rfl (V_isF (V_neq rfl rfl rfl) (fun q => q rfl)) ?_
      refine GT_nil ?_
      refine GE_cond_f rfl ?_
      refine GE_skip ?_
      refine GE_plain (.st 0 (.st 1 .nil)) rfl ?_
      refine GT_st rfl rfl rfl rfl (V_move rfl rfl) ?_
      refine GT_st rfl rfl rfl rfl (V_assign rfl rfl) ?_
      refine GT_nil ?_
      refine GE_inBlock ?_
      refine GE_slots (L' := [(0, _), (1, _), (2, _), (27, _), (28, _)]) ⟨rfl, rfl, rfl, rfl, rfl, trivial⟩ ?_
      refine GE_plain (.st 0 (.ld 1 [] .nil)) rfl ?_
      refine GT_st rfl rfl rfl rfl (V_add rfl rfl rfl (wrap_i64 (by omega))) ?_
      refine GT_ldv rfl rfl rfl rfl rfl (V_move rfl rfl) (GR_nil) ?_
      refine GT_nil ?_
      exact GE_to (ih (1, y50) ⟨Nat.le_refl _, hy50⟩ (show 1 - 1 < 1 - 0 by decide)) ⟨rfl, rfl, rfl, rfl, rfl, trivial⟩ HS.last
    · obtain rfl : k = 1 := (by omega)
      refine GE_exit rfl ?_
      refine GE_seq ?_
      refine GE_slots (L' := [(1, _)]) ⟨rfl, trivial⟩ ?_
      refine GE_plain (.st 0 (.st 1 (.st 2 .nil))) rfl ?_
      refine GT_st rfl rfl rfl rfl (V_move rfl rfl) ?_
      refine GT_st rfl rfl rfl rfl (V_assign rfl rfl) ?_
      refine GT_st rfl rfl rfl rfl (V_assign rfl rfl) ?_
      refine GT_nil ?_
      refine GE_ret Tryz.func48 ⟨_, _, rfl, rfl, rfl⟩ (fun w hw => ?_)
      exact ⟨y, hO, rfl, hw.hs (C := cx Tryz.prog hm 0 0 _ none' fun _ _ => True) HS.last⟩
  · exact ⟨Nat.zero_le _, hy0⟩
theorem C_Apply (hF : RdL w 1 eN AF [64]) (hB : RdL w 1 eN AB [128]) (hX : RdL w 1 eN AX xsE) (hA : AX.isSome = true) :
    Con Tryz.prog 26 [.agg #[.slice AF 1 cF, .slice AB 1 cB, I 256], .slice AX 4 cX] w (fun y : Option Addr × Nat × Items => Own 1 2 eN ysE (.slice y.1 4 y.2.1) y.2.2) (fun y => .tuple #[.slice y.1 4 y.2.1, I 0]) (fun y => y.2.2) := by
  refine Ret_of (vs := [_, _]) hm none' Tryz.func26 rfl Tryz.ntmps26 rfl ?_
  dsimp only [slotsOf]
  refine GE_seq ?_
  refine GE_plain (.ld 0 [] (.st 1 (.st 2 .nil))) rfl ?_
  refine GT_box (z := [_, _, _]) rfl rfl rfl rfl rfl rfl rfl (fun _ => GR_nil) (fun b2 => ?_)
  refine GT_st rfl rfl rfl rfl (V_assign rfl rfl) ?_
  refine GT_st rfl rfl rfl rfl (V_assign rfl rfl) ?_
  refine GT_nil ?_
  refine GE_seq ?_
  refine GE_plain (.st 0 (.ld 1 [] (.st 2 (.ld 3 [] (.st 4 (.st 5 (.st 6 (.st 7 .nil)))))))) rfl ?_
  refine GT_st rfl rfl rfl rfl (V_loadN (vs := [_, _, _]) rfl rfl ag_85 sz_85 rfl (CellsAt.item rfl)) ?_
  refine GT_buildSlice (z := [_, _, _]) rfl rfl rfl rfl rfl Tryz.underlying125 zc_85 sz_85 (by decide) rfl rfl (fun _ => GR_nil) (fun b7 => ?_)
  refine GT_st rfl rfl rfl rfl (V_move rfl rfl) ?_
  refine GT_call rfl rfl rfl rfl rfl rfl rfl rfl rn_48 (fun w hw => C_chain (hF.sh hw) (hB.sh hw) (BlkAt.of hw) (hX.sh hw) hA) (fun _ _ => GR_nil) (fun y hy => ?_)
  refine GT_st rfl rfl rfl rfl (V_extract rfl rfl rfl) ?_
  refine GT_st rfl rfl rfl rfl (V_extract rfl rfl rfl) ?_
  refine GT_st rfl rfl rfl rfl (V_assign rfl rfl) ?_
  refine GT_st rfl rfl rfl rfl (V_assign rfl rfl) ?_
  refine GT_nil ?_
  refine GE_ret Tryz.func26 ⟨_, _, rfl, rfl, rfl⟩ (fun w hw => ?_)
  exact ⟨y, hy, rfl, hw.hs (C := cx Tryz.prog hm 0 0 _ none' fun _ _ => True) HS.last⟩
end
end Go.Proofs.YtogljfjbilndnaaGreatDoor.Side
/- What takes and programmes come to, in plain Lean: samples, takes, parts, places, sounds, mixes. -/
namespace Go.Proofs.YtogljfjbilndnaaGreatDoor.Take
open Go.Sx

/-- an int64 -/
def I64 (x : Int) : Prop := -9223372036854775808 ≤ x ∧ x ≤ 9223372036854775807
theorem I64.of {x : Int} (h : (Lit.int .i64 x).wf = true) : I64 x := by
  simp [Lit.wf, IntKind.min, IntKind.max, IntKind.signed, IntKind.bits] at h
  unfold I64; omega
theorem u8_of {x : Int} (h : (Lit.int .u8 x).wf = true) : 0 ≤ x ∧ x ≤ 255 := by
  simp [Lit.wf, IntKind.min, IntKind.max, IntKind.signed, IntKind.bits] at h
  omega
theorem u16_of {x : Int} (h : (Lit.int .u16 x).wf = true) : 0 ≤ x ∧ x ≤ 65535 := by
  simp [Lit.wf, IntKind.min, IntKind.max, IntKind.signed, IntKind.bits] at h
  omega
def betw (x lo hi : Int) : Bool := decide (lo ≤ x) && decide (x ≤ hi)
theorem betw_iff {x lo hi : Int} : betw x lo hi = true ↔ lo ≤ x ∧ x ≤ hi := by simp [betw]
def eI (x : Int) : List Value := [I x]
theorem eI_len (x : Int) : (eI x).length = 1 := rfl
theorem eI_one : ∀ x, ∀ u ∈ eI x, u.oneCell' = true := by intro x u hu; simp only [eI, List.mem_singleton] at hu; subst hu; rfl
def eU8 (x : Int) : List Value := [.int .u8 x]
theorem eU8_len (x : Int) : (eU8 x).length = 1 := rfl
theorem eU8_one : ∀ x, ∀ u ∈ eU8 x, u.oneCell' = true := by intro x u hu; simp only [eU8, List.mem_singleton] at hu; subst hu; rfl

/-! ### samples -/
structure Sam where
  l : Int
  r : Int
  deriving DecidableEq
instance : Inhabited Sam := ⟨⟨0, 0⟩⟩
def eSam (x : Sam) : List Value := [I x.l, I x.r]
theorem eSam_len (x : Sam) : (eSam x).length = 2 := rfl
theorem eSam_one : ∀ x, ∀ u ∈ eSam x, u.oneCell' = true := by intro x u hu; simp only [eSam, List.mem_cons, List.not_mem_nil, or_false] at hu; rcases hu with rfl | rfl <;> rfl
def Sam.wf (x : Sam) : Prop := I64 x.l ∧ I64 x.r
def Sam.ok (x : Sam) : Bool := betw x.l (-32767) 32767 && betw x.r (-32767) 32767
theorem Sam.ok_iff {x : Sam} : x.ok = true ↔ (-32767 ≤ x.l ∧ x.l ≤ 32767) ∧ (-32767 ≤ x.r ∧ x.r ≤ 32767) := by
  unfold Sam.ok; rw [Bool.and_eq_true, betw_iff, betw_iff]
def sErr (s : List Sam) : Int := if 4096 < s.length then 6 else if s.all Sam.ok = true then 0 else 2
theorem sErr_zero {s : List Sam} : sErr s = 0 ↔ s.length ≤ 4096 ∧ s.all Sam.ok = true := by
  unfold sErr
  split
  · constructor
    · intro h; cases h
    · intro h; omega
  · split
    · rename_i h1 h2; exact ⟨fun _ => ⟨by omega, h2⟩, fun _ => rfl⟩
    · rename_i h1 h2; exact ⟨fun h => (by cases h), fun h => absurd h.2 h2⟩
theorem sErr_cases (s : List Sam) : sErr s = 0 ∨ sErr s = 2 ∨ sErr s = 6 := by
  unfold sErr; split
  · exact .inr (.inr rfl)
  · split
    · exact .inl rfl
    · exact .inr (.inl rfl)
def amt (n : Int) : Int := max n (-n)
theorem amt_def (n : Int) : amt n = max n (-n) := rfl
def Sam.amts (x : Sam) : Sam := ⟨amt x.l, amt x.r⟩
def sad (a b : Sam) : Sam := ⟨a.l + b.l, a.r + b.r⟩

theorem getD_mem {α : Type} [Inhabited α] {l : List α} {i : Nat} (h : i < l.length) : l.getD i default ∈ l := by
  rw [List.getD, List.getElem?_eq_getElem h]; exact List.getElem_mem h
theorem all_getD {α : Type} [Inhabited α] {l : List α} {p : α → Bool} : l.all p = true ↔ ∀ i, i < l.length → p (l.getD i default) = true := by
  rw [List.all_eq_true]
  constructor
  · intro h i hi; exact h _ (getD_mem hi)
  · intro h x hx
    obtain ⟨i, hi, rfl⟩ := List.getElem_of_mem hx
    have := h i hi
    simpa [List.getD, hi] using this
theorem all_split {α : Type} [Inhabited α] {l : List α} {p : α → Bool} {i : Nat} (hi : i < l.length) (h : p (l.getD i default) = false) : l.all p = false := by
  rw [Bool.eq_false_iff]
  intro ha
  rw [all_getD.1 ha i hi] at h; cases h

/-! ### takes -/
def nmB (b : UInt8) : Bool := (decide (97 ≤ b.toNat) && decide (b.toNat ≤ 122)) || (decide (48 ≤ b.toNat) && decide (b.toNat ≤ 57))
def isNm (s : ByteArray) : Bool := decide (1 ≤ s.size) && decide (s.size ≤ 20) && s.data.toList.all nmB
structure Tk where
  name : ByteArray
  A : Option Addr
  c : Nat
  data : List Sam
instance : Inhabited Tk := ⟨⟨⟨#[]⟩, none, 0, []⟩⟩
def eTk (x : Tk) : List Value := [.string x.name, .slice x.A x.data.length x.c]
theorem eTk_len (x : Tk) : (eTk x).length = 2 := rfl
def Tk.wf (x : Tk) : Prop := x.name.size ≤ maxLen ∧ x.data.length ≤ x.c ∧ ∀ s ∈ x.data, s.wf
/-- takes that lie -/
def Tks (w : World) (A : Option Addr) (l : List Tk) : Prop := RdL w 2 eTk A l ∧ ∀ t ∈ l, RdL w 2 eSam t.A t.data ∧ t.wf
theorem Tks.sh {w0 w : World} {A : Option Addr} {l : List Tk} {H : Items} (h : Tks w0 A l) (m : SH w0 none' H w) : Tks w A l := ⟨h.1.sh m, fun t ht => ⟨(h.2 t ht).1.sh m, (h.2 t ht).2⟩⟩
def tErr (t : Tk) : Int := if 4096 < t.data.length then 6 else if (isNm t.name && decide (t.data.length ≠ 0) && t.data.all Sam.ok) = true then 0 else 2
theorem tErr_cases (t : Tk) : tErr t = 0 ∨ tErr t = 2 ∨ tErr t = 6 := by
  unfold tErr; split
  · exact .inr (.inr rfl)
  · split
    · exact .inl rfl
    · exact .inr (.inl rfl)
theorem tErr_zero {t : Tk} : tErr t = 0 ↔ t.data.length ≤ 4096 ∧ isNm t.name = true ∧ 0 < t.data.length ∧ t.data.all Sam.ok = true := by
  unfold tErr
  split
  · constructor
    · intro h; cases h
    · intro h; omega
  · split
    · rename_i h1 h2
      rw [Bool.and_eq_true, Bool.and_eq_true, decide_eq_true_iff] at h2
      exact ⟨fun _ => ⟨by omega, h2.1.1, by omega, h2.2⟩, fun _ => rfl⟩
    · rename_i h1 h2
      rw [Bool.and_eq_true, Bool.and_eq_true, decide_eq_true_iff] at h2
      exact ⟨fun h => (by cases h), fun h => absurd ⟨⟨h.2.1, by omega⟩, h.2.2.2⟩ h2⟩
theorem tErr_six {t : Tk} : tErr t = 6 ↔ 4096 < t.data.length := by
  unfold tErr
  split
  · rename_i h; exact ⟨fun _ => h, fun _ => rfl⟩
  · rename_i h1
    split
    · exact ⟨fun h => (by cases h), fun h => absurd h h1⟩
    · exact ⟨fun h => (by cases h), fun h => absurd h h1⟩
def lErr (l : List Tk) : Int :=
  if l.length < 1 ∨ 16 < l.length then 6 else if l.any (fun t => decide (tErr t = 6)) = true then 6 else if l.any (fun t => decide (tErr t ≠ 0)) = true then 2 else if (l.map Tk.name).Nodup then 0 else 12
structure TksOk (l : List Tk) : Prop where
  one : 1 ≤ l.length
  most : l.length ≤ 16
  each : ∀ t ∈ l, tErr t = 0
  apart : (l.map Tk.name).Nodup
theorem lErr_zero {l : List Tk} : lErr l = 0 ↔ TksOk l := by
  unfold lErr
  constructor
  · intro h
    split at h
    · cases h
    · rename_i h1
      split at h
      · cases h
      · split at h
        · cases h
        · rename_i h2 h3
          split at h
          · rename_i h4
            refine ⟨by omega, by omega, fun t ht => ?_, h4⟩
            rw [List.any_eq_true] at h3
            by_cases e : tErr t = 0
            · exact e
            · exact absurd ⟨t, ht, decide_eq_true e⟩ h3
          · cases h
  · intro h
    have h6 : ¬ l.any (fun t => decide (tErr t = 6)) = true := by
      rw [List.any_eq_true]; rintro ⟨t, ht, e⟩
      have := h.each t ht; rw [decide_eq_true_iff] at e; omega
    have h2 : ¬ l.any (fun t => decide (tErr t ≠ 0)) = true := by
      rw [List.any_eq_true]; rintro ⟨t, ht, e⟩
      have := h.each t ht; rw [decide_eq_true_iff] at e; omega
    have h1 := h.one
    have h3 := h.most
    rw [if_neg (by omega), if_neg h6, if_neg h2, if_pos h.apart]

/-! ### parts -/
structure Prt where
  tk : Int
  fr : Int
  to : Int
  gap : Int
  inn : Int
  out : Int
  lev : Int
  deriving DecidableEq
instance : Inhabited Prt := ⟨⟨0, 0, 0, 0, 0, 0, 0⟩⟩
def ePrt (x : Prt) : List Value := [I x.tk, I x.fr, I x.to, I x.gap, I x.inn, I x.out, I x.lev]
theorem ePrt_len (x : Prt) : (ePrt x).length = 7 := rfl
theorem ePrt_one : ∀ x, ∀ u ∈ ePrt x, u.oneCell' = true := by intro x u hu; simp only [ePrt, List.mem_cons, List.not_mem_nil, or_false] at hu; rcases hu with rfl | rfl | rfl | rfl | rfl | rfl | rfl <;> rfl
def Prt.wf (x : Prt) : Prop := (I64 x.tk ∧ I64 x.fr ∧ I64 x.to) ∧ I64 x.gap ∧ I64 x.inn ∧ I64 x.out ∧ I64 x.lev
def tkOf (l : List Tk) (x : Prt) : Tk := l.getD x.tk.toNat default
def goodP (l : List Tk) (x : Prt) : Bool :=
  decide (0 ≤ x.tk) && decide (x.tk < (l.length : Int)) && decide (0 ≤ x.fr) && decide (x.fr < x.to) && decide (x.to ≤ ((tkOf l x).data.length : Int)) && betw x.gap (-4096) 4096 && betw x.inn 0 1000 && betw x.out 0 1000 && betw x.lev 0 4000
structure PrtOk (l : List Tk) (x : Prt) : Prop where
  tk0 : 0 ≤ x.tk
  tk1 : x.tk < (l.length : Int)
  fr0 : 0 ≤ x.fr
  frto : x.fr < x.to
  to1 : x.to ≤ ((tkOf l x).data.length : Int)
  gap : -4096 ≤ x.gap ∧ x.gap ≤ 4096
  inn : 0 ≤ x.inn ∧ x.inn ≤ 1000
  out : 0 ≤ x.out ∧ x.out ≤ 1000
  lev : 0 ≤ x.lev ∧ x.lev ≤ 4000
theorem goodP_iff {l : List Tk} {x : Prt} : goodP l x = true ↔ PrtOk l x := by
  unfold goodP
  simp only [Bool.and_eq_true, betw_iff, decide_eq_true_iff]
  constructor
  · rintro ⟨⟨⟨⟨⟨⟨⟨⟨h1, h2⟩, h3⟩, h4⟩, h5⟩, h6⟩, h7⟩, h8⟩, h9⟩; exact ⟨h1, h2, h3, h4, h5, h6, h7, h8, h9⟩
  · rintro ⟨h1, h2, h3, h4, h5, h6, h7, h8, h9⟩; exact ⟨⟨⟨⟨⟨⟨⟨⟨h1, h2⟩, h3⟩, h4⟩, h5⟩, h6⟩, h7⟩, h8⟩, h9⟩
def fin (p : List Prt) : Int := (p.map fun x => x.gap + (x.to - x.fr)).sum
def pt (p : List Prt) (i : Nat) : Prt := p.getD i default
def lng (x : Prt) : Int := x.to - x.fr
def bgn (p : List Prt) (i : Nat) : Int := fin (p.take i) + (pt p i).gap
def en (p : List Prt) (i : Nat) : Int := bgn p i + lng (pt p i)
theorem take_succ {p : List Prt} {i : Nat} (hi : i < p.length) : p.take (i + 1) = p.take i ++ [pt p i] := by
  rw [List.take_add_one, List.getElem?_eq_getElem hi]; simp [pt, List.getD, hi]
theorem fin_nil : fin [] = 0 := rfl
theorem fin_app (p q : List Prt) : fin (p ++ q) = fin p + fin q := by unfold fin; rw [List.map_append, List.sum_append]
theorem fin_one (x : Prt) : fin [x] = x.gap + lng x := by unfold fin lng; simp
theorem fin_take {p : List Prt} {i : Nat} (hi : i < p.length) : fin (p.take (i + 1)) = en p i := by
  rw [take_succ hi, fin_app, fin_one]; unfold en bgn; omega
theorem fin_all (p : List Prt) : fin (p.take p.length) = fin p := by rw [List.take_length]
/-- a part of a possible programme -/
def posOk (p : List Prt) (i : Nat) : Prop := (i = 0 → 0 ≤ bgn p i) ∧ (0 < i → bgn p (i - 1) ≤ bgn p i ∧ en p (i - 1) ≤ en p i) ∧ (1 < i → en p (i - 2) ≤ bgn p i)
instance (p : List Prt) (i : Nat) : Decidable (posOk p i) := inferInstanceAs (Decidable (_ ∧ _))
def Poss (p : List Prt) : Prop := (∀ i, i < p.length → posOk p i) ∧ fin p ≤ 4096
instance (p : List Prt) : Decidable (Poss p) := inferInstanceAs (Decidable ((∀ i, i < p.length → posOk p i) ∧ fin p ≤ 4096))
def gErr (l : List Tk) (p : List Prt) : Int := if lErr l = 0 then (if 32 < p.length then 6 else if p.all (goodP l) = true then (if Poss p then 0 else 15) else 2) else lErr l
structure ProgOk (l : List Tk) (p : List Prt) : Prop where
  tks : TksOk l
  most : p.length ≤ 32
  each : ∀ i, i < p.length → PrtOk l (pt p i)
  pos : ∀ i, i < p.length → posOk p i
  fin : fin p ≤ 4096
theorem gErr_zero {l : List Tk} {p : List Prt} : gErr l p = 0 ↔ ProgOk l p := by
  unfold gErr
  constructor
  · intro h
    split at h
    · rename_i h0
      split at h
      · cases h
      · split at h
        · rename_i h1 h2
          split at h
          · rename_i h3
            exact ⟨lErr_zero.1 h0, by omega, fun i hi => goodP_iff.1 (all_getD.1 h2 i hi), h3.1, h3.2⟩
          · cases h
        · cases h
    · contradiction
  · rintro ⟨h1, h2, h3, h4, h5⟩
    rw [if_pos (lErr_zero.2 h1), if_neg (by omega), if_pos (all_getD.2 fun i hi => goodP_iff.2 (h3 i hi)), if_pos ⟨h4, h5⟩]
theorem lng_pos {l : List Tk} {x : Prt} (h : PrtOk l x) : 0 < lng x := by unfold lng; have := h.frto; omega
theorem bgn_nn {p : List Prt} {n : Nat} (h : ∀ i, i < n → posOk p i) : ∀ i, i < n → 0 ≤ bgn p i := by
  intro i
  induction i with
  | zero => intro hi; exact (h 0 hi).1 rfl
  | succ i ih => intro hi; have h1 := ih (by omega); have h2 := ((h (i + 1) hi).2.1 (by omega)).1; simp only [Nat.add_sub_cancel] at h2; omega
theorem bgn_mono {l : List Tk} {p : List Prt} (h : ProgOk l p) : ∀ i, i < p.length → 0 ≤ bgn p i := by
  intro i
  induction i with
  | zero => intro hi; exact (h.pos 0 hi).1 rfl
  | succ i ih => intro hi; have h1 := ih (by omega); have h2 := ((h.pos (i + 1) hi).2.1 (by omega)).1; simp only [Nat.add_sub_cancel] at h2; omega
theorem en_mono {l : List Tk} {p : List Prt} (h : ProgOk l p) : ∀ i j, i ≤ j → j < p.length → en p i ≤ en p j := by
  intro i j hij
  induction j with
  | zero => intro _; rw [show i = 0 by omega]; exact Int.le_refl _
  | succ j ih =>
    intro hj
    by_cases e : i = j + 1
    · rw [e]; exact Int.le_refl _
    · have h1 := ih (by omega) (by omega)
      have h2 := ((h.pos (j + 1) hj).2.1 (by omega)).2
      simp only [Nat.add_sub_cancel] at h2; omega
theorem en_fin {l : List Tk} {p : List Prt} (h : ProgOk l p) {i : Nat} (hi : i < p.length) : en p i ≤ fin p := by
  have h1 := en_mono h i (p.length - 1) (by omega) (by omega)
  have h2 := fin_take (p := p) (i := p.length - 1) (by omega)
  rw [show p.length - 1 + 1 = p.length by omega, fin_all] at h2
  omega
theorem fin_nonneg {l : List Tk} {p : List Prt} (h : ProgOk l p) : 0 ≤ fin p := by
  rcases Nat.eq_zero_or_pos p.length with h0 | h0
  · rw [List.length_eq_zero_iff.1 h0]; exact Int.le_refl _
  · have h1 := en_fin h h0
    have h2 := bgn_mono h 0 h0
    have h3 := lng_pos (h.each 0 h0)
    unfold en at h1; omega

/-- a part in its place -/
structure Plc where
  prt : Prt
  ix : Int
  b : Int
  e : Int
instance : Inhabited Plc := ⟨⟨default, 0, 0, 0⟩⟩
def ePlc (x : Plc) : List Value := [I x.prt.tk, I x.prt.fr, I x.prt.to, I x.prt.gap, I x.prt.inn, I x.prt.out, I x.prt.lev, I x.ix, I x.b, I x.e]
theorem ePlc_len (x : Plc) : (ePlc x).length = 10 := rfl
theorem ePlc_one : ∀ x, ∀ u ∈ ePlc x, u.oneCell' = true := by intro x u hu; simp only [ePlc, List.mem_cons, List.not_mem_nil, or_false] at hu; rcases hu with rfl | rfl | rfl | rfl | rfl | rfl | rfl | rfl | rfl | rfl <;> rfl
def plc (p : List Prt) (i : Nat) : Plc := ⟨pt p i, i, bgn p i, en p i⟩
def plcs (p : List Prt) (n : Nat) : List Plc := (List.range n).map (plc p)
theorem ePlc_plc (p : List Prt) (i : Nat) : ePlc (plc p i) = [I (pt p i).tk, I (pt p i).fr, I (pt p i).to, I (pt p i).gap, I (pt p i).inn, I (pt p i).out, I (pt p i).lev, I i, I (bgn p i), I (en p i)] := rfl
theorem plcs_len (p : List Prt) (n : Nat) : (plcs p n).length = n := by simp [plcs]
theorem plcs_succ (p : List Prt) (n : Nat) : plcs p (n + 1) = plcs p n ++ [plc p n] := by simp [plcs, List.range_succ]
theorem plcs_get {p : List Prt} {n i : Nat} (hi : i < n) : (plcs p n).getD i default = plc p i := by simp [plcs, List.getD, hi]

/-! ### sounds -/
def up (x : Prt) (k : Int) : Int := min k x.inn + 1
def dn (x : Prt) (k : Int) : Int := min (lng x - k - 1) x.out + 1
def gnN (x : Prt) (k lev : Int) : Int := lev * up x k * dn x k
def gnD (x : Prt) : Int := 1000 * (x.inn + 1) * (x.out + 1)
def ld (s : Int) (x : Prt) (k lev : Int) : Int := (s * gnN x k lev).tdiv (gnD x)
def smp (l : List Tk) (x : Prt) (k : Int) : Sam := (tkOf l x).data.getD (x.fr + k).toNat default
def snd (l : List Tk) (x : Prt) (k lev : Int) : Sam := ⟨ld (smp l x k).l x k lev, ld (smp l x k).r x k lev⟩
theorem up_bd {l : List Tk} {x : Prt} (h : PrtOk l x) {k : Int} (h0 : 0 ≤ k) : 1 ≤ up x k ∧ up x k ≤ x.inn + 1 := by
  unfold up; have := h.inn; omega
theorem dn_bd {l : List Tk} {x : Prt} (h : PrtOk l x) {k : Int} (h1 : k < lng x) : 1 ≤ dn x k ∧ dn x k ≤ x.out + 1 := by
  unfold dn; have := h.out; omega
theorem mul_bd {a b A B : Int} (h0 : 0 ≤ a) (h1 : a ≤ A) (h2 : 0 ≤ b) (h3 : b ≤ B) : 0 ≤ a * b ∧ a * b ≤ A * B := ⟨Int.mul_nonneg h0 h2, Int.mul_le_mul h1 h3 h2 (by omega)⟩
theorem gnD_pos {l : List Tk} {x : Prt} (h : PrtOk l x) : 1000 ≤ gnD x ∧ gnD x ≤ 1002001000 := by
  unfold gnD
  have h1 := h.inn; have h2 := h.out
  have := mul_bd (a := x.inn + 1 - 1) (b := x.out + 1 - 1) (A := 1000) (B := 1000) (by omega) (by omega) (by omega) (by omega)
  have e : 1000 * (x.inn + 1) * (x.out + 1) = 1000 * ((x.inn + 1 - 1) * (x.out + 1 - 1)) + 1000 * x.inn + 1000 * x.out + 1000 := by
    rw [show x.inn + 1 - 1 = x.inn by omega, show x.out + 1 - 1 = x.out by omega, Int.mul_assoc, Int.add_mul, Int.mul_add]; simp only [Int.mul_add, Int.one_mul, Int.mul_one]; omega
  omega
theorem gnN_bd {l : List Tk} {x : Prt} (h : PrtOk l x) {k lev : Int} (h0 : 0 ≤ k) (h1 : k < lng x) (h2 : 0 ≤ lev) : 0 ≤ gnN x k lev ∧ 1000 * gnN x k lev ≤ lev * gnD x := by
  have hu := up_bd h h0
  have hd := dn_bd h h1
  have a1 := mul_bd (a := up x k) (b := dn x k) (by omega) hu.2 (by omega) hd.2
  have a2 := mul_bd (a := lev) (b := up x k * dn x k) h2 (Int.le_refl _) a1.1 a1.2
  unfold gnN gnD
  rw [Int.mul_assoc lev]
  refine ⟨a2.1, ?_⟩
  rw [Int.mul_assoc 1000, Int.mul_left_comm lev 1000]
  exact Int.mul_le_mul_of_nonneg_left a2.2 (by omega)
theorem tdiv_bd {a d c : Int} (hd : 0 < d) (hc : 0 ≤ c) (h : 1000 * amt a ≤ c * d) : 1000 * amt (a.tdiv d) ≤ c := by
  rcases Int.le_total 0 a with h0 | h0
  · have e : amt a = a := by unfold amt; omega
    have q0 : 0 ≤ a.tdiv d := Int.tdiv_nonneg h0 (by omega)
    have e2 : amt (a.tdiv d) = a.tdiv d := by unfold amt; omega
    rw [e] at h; rw [e2]
    have h1 : a.tdiv d * d ≤ a := by rw [Int.tdiv_eq_ediv_of_nonneg h0]; exact Int.ediv_mul_le a (by omega)
    have h2 : (1000 * a.tdiv d) * d ≤ c * d := by rw [Int.mul_assoc]; omega
    exact Int.le_of_mul_le_mul_right h2 hd
  · have e : amt a = -a := by unfold amt; omega
    have hn : a.tdiv d = -((-a).tdiv d) := by rw [Int.neg_tdiv, Int.neg_neg]
    have q0 : 0 ≤ (-a).tdiv d := Int.tdiv_nonneg (by omega) (by omega)
    have e2 : amt (a.tdiv d) = (-a).tdiv d := by unfold amt; omega
    rw [e] at h; rw [e2]
    have h1 : (-a).tdiv d * d ≤ -a := by rw [Int.tdiv_eq_ediv_of_nonneg (by omega)]; exact Int.ediv_mul_le (-a) (by omega)
    have h2 : (1000 * (-a).tdiv d) * d ≤ c * d := by rw [Int.mul_assoc]; omega
    exact Int.le_of_mul_le_mul_right h2 hd
theorem amt_mul {a b : Int} (hb : 0 ≤ b) : amt (a * b) = amt a * b := by
  unfold amt
  rcases Int.le_total 0 a with h | h
  · have := Int.mul_nonneg h hb
    rw [Int.max_eq_left (by omega), Int.max_eq_left (by omega)]
  · have h1 : a * b ≤ 0 := by have := Int.mul_nonneg (a := -a) (by omega) hb; rw [Int.neg_mul] at this; omega
    rw [Int.max_eq_right (by omega), Int.max_eq_right (by omega), Int.neg_mul]
theorem amt_nonneg (a : Int) : 0 ≤ amt a := by unfold amt; omega
theorem ld_bd {l : List Tk} {x : Prt} (h : PrtOk l x) {s k lev : Int} (h0 : 0 ≤ k) (h1 : k < lng x) (h2 : 0 ≤ lev) : 1000 * amt (ld s x k lev) ≤ amt s * lev := by
  have hg := gnN_bd h h0 h1 h2
  have hd := (gnD_pos h).1
  unfold ld
  refine tdiv_bd (by omega) (Int.mul_nonneg (amt_nonneg s) h2) ?_
  rw [amt_mul hg.1, ← Int.mul_assoc, Int.mul_comm 1000, Int.mul_assoc, Int.mul_assoc]
  exact Int.mul_le_mul_of_nonneg_left hg.2 (amt_nonneg s)
theorem ld_sign {l : List Tk} {x : Prt} (h : PrtOk l x) {s k lev : Int} (h0 : 0 ≤ k) (h1 : k < lng x) (h2 : 0 ≤ lev) : (0 ≤ s → 0 ≤ ld s x k lev) ∧ (s ≤ 0 → ld s x k lev ≤ 0) := by
  have hg := gnN_bd h h0 h1 h2
  have hd := (gnD_pos h).1
  unfold ld
  constructor
  · intro hs; exact Int.tdiv_nonneg (Int.mul_nonneg hs hg.1) (by omega)
  · intro hs
    have : 0 ≤ (-(s * gnN x k lev)).tdiv (gnD x) := Int.tdiv_nonneg (by have := Int.mul_nonneg (a := -s) (by omega) hg.1; rw [Int.neg_mul] at this; omega) (by omega)
    rw [Int.neg_tdiv] at this; omega

/-! ### mixes -/
/-- what parts sound at a time, of the first n parts -/
def mixN (p : List Prt) (v : Nat → Int → Sam) : Nat → Int → Sam
  | 0, _ => ⟨0, 0⟩
  | n + 1, t => if bgn p n ≤ t ∧ t < en p n then sad (mixN p v n t) (v n (t - bgn p n)) else mixN p v n t
def mix (p : List Prt) (v : Nat → Int → Sam) : List Sam := (List.range (fin p).toNat).map fun (t : Nat) => mixN p v p.length t
def vR (l : List Tk) (p : List Prt) (i : Nat) (k : Int) : Sam := snd l (pt p i) k (pt p i).lev
def vH (l : List Tk) (p : List Prt) (f : Int) (i : Nat) (k : Int) : Sam := (snd l (pt p i) k (((pt p i).lev * f).tdiv 1000)).amts
def rend (l : List Tk) (p : List Prt) : List Sam := mix p (vR l p)
/-- the error of Render -/
def rErr (l : List Tk) (p : List Prt) : Int := if gErr l p = 0 then (if sErr (rend l p) = 0 then 0 else 4) else gErr l p
def rendL (l : List Tk) (p : List Prt) : List Sam := if rErr l p = 0 then rend l p else []
theorem mix_len (p : List Prt) (v : Nat → Int → Sam) : (mix p v).length = (fin p).toNat := by simp [mix]
theorem mix_get {p : List Prt} {v : Nat → Int → Sam} {t : Nat} (h : t < (fin p).toNat) : (mix p v).getD t default = mixN p v p.length t := by simp [mix, List.getD, h]
def Sam.bd (s : Sam) (B : Int) : Prop := (-B ≤ s.l ∧ s.l ≤ B) ∧ (-B ≤ s.r ∧ s.r ≤ B)
theorem mixN_bd {p : List Prt} {v : Nat → Int → Sam} {B : Int} (hB : 0 ≤ B) : ∀ n t, n ≤ p.length → (∀ i k, i < p.length → 0 ≤ k → k < lng (pt p i) → (v i k).bd B) → (mixN p v n t).bd (n * B) := by
  intro n t hn hv
  induction n with
  | zero => exact ⟨⟨by simp [mixN], by simp [mixN]⟩, ⟨by simp [mixN], by simp [mixN]⟩⟩
  | succ n ih =>
    have hi := ih (by omega)
    have e : ((n + 1 : Nat) : Int) * B = n * B + B := by rw [Int.natCast_succ, Int.add_mul, Int.one_mul]
    rw [e]
    unfold mixN
    unfold Sam.bd at hi ⊢
    split
    · rename_i h
      have hb := hv n (t - bgn p n) (by omega) (by omega) (by have := h.2; unfold en at this; omega)
      unfold Sam.bd at hb
      simp only [sad]
      omega
    · omega
theorem Sam.bd.mono {s : Sam} {B C : Int} (h : s.bd B) (hb : B ≤ C) : s.bd C := by unfold Sam.bd at h ⊢; omega
/-- a mix, of the parts before i everywhere, and of the part i before t -/
def mixS (p : List Prt) (v : Nat → Int → Sam) (i : Nat) (t : Int) : List Sam := (List.range (fin p).toNat).map fun (s : Nat) => if bgn p i ≤ s ∧ (s : Int) < t then mixN p v (i + 1) s else mixN p v i s
def mixP (p : List Prt) (v : Nat → Int → Sam) (i : Nat) : List Sam := (List.range (fin p).toNat).map fun (s : Nat) => mixN p v i s
theorem mixS_len (p : List Prt) (v : Nat → Int → Sam) (i : Nat) (t : Int) : (mixS p v i t).length = (fin p).toNat := by simp [mixS]
theorem mixP_len (p : List Prt) (v : Nat → Int → Sam) (i : Nat) : (mixP p v i).length = (fin p).toNat := by simp [mixP]
theorem mixP_zero (p : List Prt) (v : Nat → Int → Sam) : mixP p v 0 = List.replicate (fin p).toNat ⟨0, 0⟩ := by
  unfold mixP
  rw [List.eq_replicate_iff]
  refine ⟨by simp, fun b hb => ?_⟩
  obtain ⟨i, _, rfl⟩ := List.mem_map.1 hb
  rfl
theorem mixS_begin (p : List Prt) (v : Nat → Int → Sam) (i : Nat) : mixS p v i (bgn p i) = mixP p v i := by
  unfold mixS mixP
  apply List.map_congr_left
  intro s _
  rw [if_neg (by omega)]
theorem mixS_end (p : List Prt) (v : Nat → Int → Sam) (i : Nat) : mixS p v i (en p i) = mixP p v (i + 1) := by
  unfold mixS mixP
  apply List.map_congr_left
  intro s _
  by_cases h : bgn p i ≤ s ∧ (s : Int) < en p i
  · rw [if_pos h]
  · rw [if_neg h]; conv => rhs; rw [mixN, if_neg h]
theorem mixS_at {p : List Prt} {v : Nat → Int → Sam} {i t : Nat} (h : t < (fin p).toNat) : (mixS p v i t).getD t default = mixN p v i t := by
  simp [mixS, List.getD, h]
theorem mixS_set {p : List Prt} {v : Nat → Int → Sam} {i t : Nat} (h : t < (fin p).toNat) (h1 : bgn p i ≤ t) (h2 : (t : Int) < en p i) : (mixS p v i t).set t (sad (mixN p v i t) (v i (t - bgn p i))) = mixS p v i ((t : Int) + 1) := by
  apply List.ext_getElem (by simp [mixS])
  intro q h3 h4
  rw [List.getElem_set]
  simp only [mixS, List.getElem_map, List.getElem_range]
  by_cases e : t = q
  · subst e
    rw [if_pos rfl, if_pos ⟨h1, by omega⟩]
    conv => rhs; rw [mixN, if_pos ⟨h1, h2⟩]
  · rw [if_neg e]
    by_cases hc : bgn p i ≤ (q : Int) ∧ (q : Int) < t
    · rw [if_pos hc, if_pos ⟨hc.1, by omega⟩]
    · rw [if_neg hc, if_neg (by omega)]
theorem mixP_all (p : List Prt) (v : Nat → Int → Sam) : mixP p v p.length = mix p v := rfl
theorem smp_ok {l : List Tk} {x : Prt} (hl : TksOk l) (h : PrtOk l x) {k : Int} (h0 : 0 ≤ k) (h1 : k < lng x) : (x.fr + k).toNat < (tkOf l x).data.length ∧ x.tk.toNat < l.length ∧ (-32767 ≤ (smp l x k).l ∧ (smp l x k).l ≤ 32767) ∧ (-32767 ≤ (smp l x k).r ∧ (smp l x k).r ≤ 32767) := by
  have a := h.tk0; have b := h.tk1; have c := h.fr0; have d := h.frto; have e := h.to1
  unfold lng at h1
  have h2 : (x.fr + k).toNat < (tkOf l x).data.length := by omega
  have h3 : x.tk.toNat < l.length := by omega
  have h4 := (tErr_zero.1 (hl.each _ (getD_mem h3))).2.2.2
  have h5 := Sam.ok_iff.1 (all_getD.1 h4 _ h2)
  exact ⟨h2, h3, h5⟩
theorem snd_bd {l : List Tk} {x : Prt} (hl : TksOk l) (h : PrtOk l x) {k lev : Int} (h0 : 0 ≤ k) (h1 : k < lng x) (h2 : 0 ≤ lev) (h3 : lev ≤ 16000) : (snd l x k lev).bd 1000000 := by
  obtain ⟨_, _, s1, s2⟩ := smp_ok hl h h0 h1
  have b1 := ld_bd h (s := (smp l x k).l) h0 h1 h2
  have b2 := ld_bd h (s := (smp l x k).r) h0 h1 h2
  have c1 := mul_bd (amt_nonneg (smp l x k).l) (A := 32767) (by unfold amt; omega) h2 h3
  have c2 := mul_bd (amt_nonneg (smp l x k).r) (A := 32767) (by unfold amt; omega) h2 h3
  have d1 : 1000 * amt (ld (smp l x k).l x k lev) ≤ 524272000 := by omega
  have d2 : 1000 * amt (ld (smp l x k).r x k lev) ≤ 524272000 := by omega
  unfold amt at d1 d2
  unfold Sam.bd snd
  dsimp only
  omega
end Go.Proofs.YtogljfjbilndnaaGreatDoor.Take
/- Silences, in plain Lean; names that are apart. -/
namespace Go.Proofs.YtogljfjbilndnaaGreatDoor.Take
open Go.Sx

/-! ### silences -/
abbrev Iv := Int × Int
def eIv (x : Iv) : List Value := [I x.1, I x.2]
theorem eIv_len (x : Iv) : (eIv x).length = 2 := rfl
theorem eIv_one : ∀ x, ∀ u ∈ eIv x, u.oneCell' = true := by intro x u hu; simp only [eIv, List.mem_cons, List.not_mem_nil, or_false] at hu; rcases hu with rfl | rfl <;> rfl
def quiet (a : Int) (x : Sam) : Bool := decide (amt x.l ≤ a) && decide (amt x.r ≤ a)
theorem quiet_iff {a : Int} {x : Sam} : quiet a x = true ↔ amt x.l ≤ a ∧ amt x.r ≤ a := by simp [quiet]
def addIv (least : Int) (out : List Iv) (fr to : Int) : List Iv := if least ≤ to - fr then out ++ [(fr, to)] else out
/-- the silences that ended among the first n samples; and where the next one begins -/
def silN (s : List Sam) (a least : Int) : Nat → List Iv × Nat
  | 0 => ([], 0)
  | n + 1 => if quiet a (s.getD n default) = true then silN s a least n else (addIv least (silN s a least n).1 (silN s a least n).2 n, n + 1)
def sil (s : List Sam) (a least : Int) : List Iv := addIv least (silN s a least s.length).1 (silN s a least s.length).2 s.length
theorem silN_q {s : List Sam} {a least : Int} {n : Nat} (h : quiet a (s.getD n default) = true) : silN s a least (n + 1) = silN s a least n := by rw [silN, if_pos h]
theorem silN_l {s : List Sam} {a least : Int} {n : Nat} (h : quiet a (s.getD n default) = false) : silN s a least (n + 1) = (addIv least (silN s a least n).1 (silN s a least n).2 n, n + 1) := by rw [silN, if_neg (by rw [h]; decide)]
theorem silN_le {s : List Sam} {a least : Int} : ∀ n, (silN s a least n).2 ≤ n := by
  intro n
  induction n with
  | zero => exact Nat.le_refl _
  | succ n ih => rw [silN]; split <;> (try dsimp only) <;> omega
theorem addIv_len {least : Int} {out : List Iv} {fr to : Int} : (addIv least out fr to).length ≤ out.length + 1 := by unfold addIv; split <;> simp
theorem silN_len {s : List Sam} {a least : Int} : ∀ n, (silN s a least n).1.length ≤ n := by
  intro n
  induction n with
  | zero => exact Nat.le_refl _
  | succ n ih =>
    rw [silN]; split
    · omega
    · dsimp only; have := addIv_len (least := least) (out := (silN s a least n).1) (fr := (silN s a least n).2) (to := n); omega
theorem sil_len {s : List Sam} {a least : Int} : (sil s a least).length ≤ s.length + 1 := by
  unfold sil
  have h1 := addIv_len (least := least) (out := (silN s a least s.length).1) (fr := (silN s a least s.length).2) (to := s.length)
  have h2 := silN_len (s := s) (a := a) (least := least) s.length
  omega
/-- the error of Silences -/
def iErr (s : List Sam) (a least : Int) : Int := if sErr s = 0 then (if (betw a 0 32767 && betw least 1 4096) = true then 0 else 3) else sErr s
def silL (s : List Sam) (a least : Int) : List Iv := if iErr s a least = 0 then sil s a least else []

/-! ### names that are apart -/
instance decMem (k : ByteArray) (ks : List ByteArray) : Decidable (k ∈ ks) := decidable_of_iff ((ks.any fun x => decide (x = k)) = true) (by simp)
def kad (ks : List ByteArray) (k : ByteArray) : List ByteArray := if k ∈ ks then ks else ks ++ [k]
def uniq : List ByteArray → List ByteArray := List.foldl kad []
theorem uniq_snoc (l : List ByteArray) (k : ByteArray) : uniq (l ++ [k]) = kad (uniq l) k := by unfold uniq; rw [List.foldl_append]; rfl
theorem kad_mem {ks : List ByteArray} {k x : ByteArray} : x ∈ kad ks k ↔ x ∈ ks ∨ x = k := by
  unfold kad
  split
  · rename_i h; constructor
    · exact .inl
    · rintro (h2 | rfl); exact h2; exact h
  · simp
theorem uniq_rev (P : List ByteArray → Prop) (h0 : P []) (h1 : ∀ l k, P l → P (l ++ [k])) : ∀ l, P l := by
  intro l
  have : ∀ n, ∀ l : List ByteArray, l.length = n → P l := by
    intro n
    induction n with
    | zero => intro l hl; rw [List.length_eq_zero_iff.1 hl]; exact h0
    | succ n ih =>
      intro l hl
      have hne : l ≠ [] := by intro e; rw [e] at hl; cases hl
      rw [← List.dropLast_concat_getLast hne]
      exact h1 _ _ (ih _ (by simp [hl]))
  exact this _ l rfl
theorem uniq_mem (l : List ByteArray) : ∀ x, x ∈ uniq l ↔ x ∈ l := by
  refine uniq_rev (fun l => ∀ x, x ∈ uniq l ↔ x ∈ l) (by simp [uniq]) ?_ l
  intro l k ih x
  rw [uniq_snoc, kad_mem, ih]; simp
theorem uniq_len (l : List ByteArray) : (uniq l).length ≤ l.length ∧ ((uniq l).length = l.length ↔ l.Nodup) := by
  refine uniq_rev (fun l => (uniq l).length ≤ l.length ∧ ((uniq l).length = l.length ↔ l.Nodup)) (by simp [uniq]) ?_ l
  intro l k ⟨ih1, ih2⟩
  rw [uniq_snoc]
  have hm := uniq_mem l k
  unfold kad
  rw [List.nodup_append]
  split
  · rename_i h
    refine ⟨by simp; omega, ⟨fun e => ?_, fun e => ?_⟩⟩
    · simp at e; omega
    · exact absurd rfl (e.2.2 k (hm.1 h) k (List.mem_singleton.2 rfl))
  · rename_i h
    refine ⟨by simp; omega, ⟨fun e => ?_, fun e => ?_⟩⟩
    · simp at e
      refine ⟨ih2.1 e, by simp, fun a ha b hb => ?_⟩
      rw [List.mem_singleton] at hb; subst hb; rintro rfl; exact h (hm.2 ha)
    · simp; exact ih2.2 e.1
/-- the keys of a map that counts -/
theorem mput_keys (ks : List KV) (k : ByteArray) (z : Int) : (mput ks k z).map (·.1) = kad (ks.map (·.1)) k := by
  unfold mput kad
  cases h : midx ks k with
  | none => rw [if_neg (midx_none.1 h)]; simp
  | some i =>
    have hi := midx_some h
    rw [if_pos]
    · apply List.ext_getElem (by simp)
      intro j h1 h2
      simp only [List.getElem_map, List.getElem_set]
      split
      · rename_i e; subst e; rw [← hi.2]; simp [List.getD, hi.1]
      · rfl
    · rw [List.mem_map]
      exact ⟨ks.getD i default, getD_mem hi.1, hi.2⟩
theorem mget_bd {ks : List KV} {k : ByteArray} {B : Int} (h : ∀ e ∈ ks, 0 ≤ e.2 ∧ e.2 ≤ B) (hB : 0 ≤ B) : 0 ≤ mget ks k ∧ mget ks k ≤ B := by
  unfold mget
  cases hq : midx ks k with
  | none => exact ⟨Int.le_refl _, hB⟩
  | some i => exact h _ (getD_mem (midx_some hq).1)
theorem mput_bd {ks : List KV} {k : ByteArray} {z B : Int} (h : ∀ e ∈ ks, 0 ≤ e.2 ∧ e.2 ≤ B) (hz : 0 ≤ z ∧ z ≤ B) : ∀ e ∈ mput ks k z, 0 ≤ e.2 ∧ e.2 ≤ B := by
  unfold mput
  intro e he
  cases hq : midx ks k with
  | none =>
    rw [hq] at he
    rcases List.mem_append.1 he with he | he
    · exact h e he
    · rw [List.mem_singleton.1 he]; exact hz
  | some i =>
    rw [hq] at he
    rcases List.mem_or_eq_of_mem_set he with he | rfl
    · exact h e he
    · exact hz
end Go.Proofs.YtogljfjbilndnaaGreatDoor.Take
