/- Texts of this proof, one behind the other: Tf2, Tf3, Tf4, Tg1, Tg2. -/
import Derived.Test.YtncleikbggjmjaaGreatDoorMt0
import Derived.Test.YtncleikbggjmjaaGreatDoorMt16
import Derived.Test.YtncleikbggjmjaaGreatDoorMt13
/- Rings, and the correction of a curve, walked. -/
namespace Go.Proofs.YtncleikbggjmjaaGreatDoor.Side
open Go.Sx Go.Proofs Go.RowKit
theorem rem8 {k : Nat} (hk : k < 8) : ((k : Int) + 1).tmod 8 = (((k + 1) % 8 : Nat) : Int) := by
  rw [Int.tmod_eq_emod_of_nonneg (by omega)]; omega
theorem rem87 {k : Nat} (hk : k < 8) : ((k : Int) + 8 - 1 - 0).tmod 8 = (((k + 7) % 8 : Nat) : Int) := by
  rw [Int.tmod_eq_emod_of_nonneg (by omega)]; omega
theorem mul_bd {a b : Int} (ha : -4096 ≤ a ∧ a ≤ 4096) (hb : -100000 ≤ b ∧ b ≤ 100000) : -4096 * 100000 ≤ a * b ∧ a * b ≤ 4096 * 100000 := by
  have h := Int.natAbs_mul a b
  have h2 : a.natAbs * b.natAbs ≤ 4096 * 100000 := Nat.mul_le_mul (by omega) (by omega)
  rw [← h] at h2; omega
theorem tdiv256 (n : Int) : (n.tmod 256 < 0 → n.tdiv 256 - 1 = n / 256) ∧ (¬ n.tmod 256 < 0 → n.tdiv 256 = n / 256) := by
  rcases (show 0 ≤ n ∨ n < 0 by omega) with h | h
  · rw [Int.tmod_eq_emod_of_nonneg h, Int.tdiv_eq_ediv_of_nonneg h]; omega
  · obtain ⟨m, rfl⟩ : ∃ m, n = -m := ⟨-n, by omega⟩
    rw [Int.neg_tmod, Int.neg_tdiv, Int.tmod_eq_emod_of_nonneg (by omega), Int.tdiv_eq_ediv_of_nonneg (by omega)]; omega
section
variable {w w0 : World} {A A2 : Option Addr} {c c2 b q k : Nat} {cells : List Value} {H1 : Items}
def putL (cells : List Value) (q k : Nat) (n : Int) : List Value := (cells.set (q + k) (I n)).set (q + 8) (I (((k + 1) % 8 : Nat) : Int))
set_option maxRecDepth 10000 in
theorem C_put {n : Int} (m : SH w0 none' ((b, blk cells 309) :: H1) w) (hk : k < 8) (hq : cells[q + 8]? = some (I k)) (hl : q + 9 ≤ cells.length) :
    Ret Tryz.prog 158 [ptr b q, I n].toArray w fun r w' => ∃ _ : Unit, True ∧ r = .tuple #[] ∧ SH w0 none' ((b, blk (putL cells q k n) 309) :: H1) w' := by
  have hs : (cells.set (q + k) (I n))[q + 8]? = some (I k) := by rw [List.getElem?_set_ne (by omega)]; exact hq
  have hs2 : ((cells.set (q + k) (I n)).length) = cells.length := List.length_set
  refine Ret_ofH (vs := [_, _]) hm none' Tryz.func158 rfl Tryz.ntmps158 rfl m ?_
  dsimp only [slotsOf]
  refine GE_seq ?_;refine GE_drawn (.st 0 (.st 1 (.st 2 (.st 3 (.st 4 (.st 5 (.st 6 (.st 7 (.st 8 (.ld 9 [] .nil)))))))))) [9] (by decide +kernel) ?_;refine Zr 3 rfl ?_;refine Zf rfl fo_307_1 ?_;refine ZL rfl ag_3 (CellAt.item hq) ?_;refine Zr 2 rfl ?_;refine Zf rfl fo_307_0 ?_;refine GT_S rfl (V_indexArr rfl rfl rfl Tryz.underlying305 sz_2 (kk := k) rfl hk) ?_;refine GT_store (b := b) (q := q + 0 + k * 1) (vs := [_]) (l := cells) (l' := cells.set (q + k) (I n)) rfl rfl rfl rfl rfl rfl rfl sz_2 rfl rfl (by simp only [List.length_singleton]; omega) (by simp [setsAt]) GR_nil ?_;refine GT_nil ?_;refine Zs [0] rfl ?_;refine ZP 10 [9] rfl ?_;refine Zr 3 rfl ?_;refine Zf rfl fo_307_1 ?_;refine ZL rfl ag_3 (CellAt.item hs) ?_;refine Za rfl (by omega) ?_;refine GT_S rfl (V_rem rfl rfl rfl (by omega)) ?_;refine Zv rfl ?_;refine Zf rfl fo_307_1 ?_;refine GT_store (b := b) (q := q + 8) (vs := [_]) (l := cells.set (q + k) (I n)) (l' := putL cells q k n) rfl rfl rfl rfl rfl rfl rfl sz_3 rfl rfl (by simp only [List.length_singleton]; omega) (by rw [rem8 hk]; rfl) GR_nil ?_;refine GT_nil ?_;refine GE_end Tryz.func158 rfl (fun w hw => ?_)
  exact ⟨(), trivial, rfl, hw⟩
set_option maxRecDepth 10000 in
theorem C_weigh {wt v : Int} (hb : BlkAt w b cells 309) (hA : RdL w 1 eN A [wt]) (hk : k < 8) (hn : cells[q + 8]? = some (I k)) (hv : cells[q + (k + 7) % 8]? = some (I v)) (hw1 : -4096 ≤ wt ∧ wt ≤ 4096) (hv1 : -100000 ≤ v ∧ v ≤ 100000) :
    Con0 Tryz.prog 169 [ptr b q, .slice A 1 c] w (I (wt * v)) := by
  have z1 : 0 < ([wt] : List Int).length := Nat.zero_lt_one
  have hmul : -4096 * 100000 ≤ wt * v ∧ wt * v ≤ 4096 * 100000 := mul_bd hw1 hv1
  refine Ret_of (vs := [_, _]) hm none' Tryz.func169 rfl Tryz.ntmps169 rfl ?_
  dsimp only [slotsOf]
  refine Zp 1 [] rfl ?_;refine Zv rfl ?_;refine GT_nil ?_;refine Zp 1 [] rfl ?_;refine Zv rfl ?_;refine Zz ?_;refine Zp 3 [] rfl ?_;refine Zv rfl ?_;refine Zn rfl Tryz.underlying43 ?_;refine Zv rfl ?_;refine GT_nil ?_;refine GE_block ?_;refine GE_to (GE_loop (ι := Nat) (fun i => 1 - i) (fun i => [(0, ptr b q), (5, I (if i = 0 then 0 else wt * v)), (8, .slice A 1 c), (9, I 1), (10, I i)]) (fun i => []) (fun i => i ≤ 1) ?_ 0 ?_) ⟨rfl, rfl, rfl, rfl, rfl, trivial⟩ HS.nil
  · intro i hi ih
    refine Zp 1 [] rfl ?_;refine GT_S rfl (V_lss rfl rfl rfl) ?_;refine Zz ?_;refine GE_cond rfl (fun q1 => ?_) (fun q1 => ?_)
    · obtain rfl : i = 0 := (by omega)
      refine GE_skip ?_;refine GE_seq ?_;refine GE_block ?_;refine Zp 5 [] rfl ?_;refine Zv rfl ?_;refine GT_S rfl (V_index rfl rfl rfl Tryz.underlying43 sz_2 (k := 0) rfl z1 (hA.isSome (k := 0) z1)) ?_;refine ZL rfl ag_2 (show CellAt _ _ _ (I wt) from hA.at0 (k := 0) noM z1 rfl) ?_;refine Zr 2 rfl ?_;refine GT_nil ?_;refine Zs [0, 5, 6, 7, 8, 9, 10] rfl ?_;refine GE_drawn (.st 0 (.st 1 (.st 2 (.st 3 (.st 4 (.st 5 (.st 6 (.st 7 (.st 8 (.st 9 (.st 10 (.st 11 (.st 12 (.st 13 (.st 14 (.st 15 (.st 16 (.st 17 (.ld 18 [] .nil))))))))))))))))))) [18] (by decide +kernel) ?_;refine Zr 5 rfl ?_;refine Zf rfl fo_307_1 ?_;refine ZL rfl ag_3 (CellAt.old (hb.cell hn) (noM _)) ?_;refine Za rfl (by omega) ?_;refine Za rfl (by omega) ?_;refine Zv rfl ?_;refine Za rfl (by omega) ?_;refine GT_S rfl (V_rem rfl rfl rfl (by omega)) ?_;refine Zv rfl ?_;refine Zf rfl fo_307_0 ?_;refine GT_S rfl (V_indexArr rfl rfl rfl Tryz.underlying305 sz_2 (kk := (k + 7) % 8) (rem87 hk) (by omega)) ?_;refine ZL rfl ag_2 (show CellAt _ _ ⟨b, q + 0 + (k + 7) % 8 * 1, none⟩ (I v) from (show q + 0 + (k + 7) % 8 * 1 = q + (k + 7) % 8 by omega) ▸ CellAt.old (hb.cell hv) (noM _)) ?_;refine Za rfl (by omega) ?_;refine GT_S rfl (V_add rfl rfl rfl ((wrap_i64 (show -9223372036854775808 ≤ 0 + wt * v ∧ 0 + wt * v ≤ 9223372036854775807 by omega)))) ?_;refine Zw rfl ?_;refine GT_nil ?_;refine GE_inBlock ?_;refine Zs [0, 5, 8, 9, 10] rfl ?_;refine ZP 2 [1] rfl ?_;refine Za rfl (by omega) ?_;refine Zw rfl ?_;refine GT_nil ?_
      exact GE_to (ih 1 (Nat.le_refl _) (show 1 - 1 < 1 - 0 by decide)) ⟨rfl, lookI rfl (show 0 + wt * v = wt * v by omega), rfl, rfl, rfl, trivial⟩ HS.nil
    · obtain rfl : i = 1 := (by omega)
      refine GE_exit rfl ?_;refine Zq [5] 2 [] rfl rfl ?_;refine Zr 2 rfl ?_;refine GT_nil ?_;refine GE_ret Tryz.func169 rfl (fun w hw => ⟨?_, hw.nil⟩)
      rfl
  · exact Nat.zero_le _
theorem C_down {n : Int} (h : -1000000000000 ≤ n ∧ n ≤ 1000000000000) : Con0 Tryz.prog 168 [I n, I 256] w (I (n / 256)) := by
  have h1 := tdiv256 n
  refine Ret_of (vs := [_, _]) hm none' Tryz.func168 rfl Tryz.ntmps168 rfl ?_
  dsimp only [slotsOf]
  refine Zp 1 [] rfl ?_;refine Zv rfl ?_;refine GT_nil ?_;refine Zp 4 [] rfl ?_;refine Zr 2 rfl ?_;refine GT_S rfl (V_quo rfl rfl rfl (by omega) ((wrap_i64 (by omega)))) ?_;refine Zv rfl ?_;refine Zz ?_;refine Zq [0, 1, 5] 4 [] rfl rfl ?_;refine Zr 2 rfl ?_;refine GT_S rfl (V_rem rfl rfl rfl (by omega)) ?_;refine GT_S rfl (V_lss rfl rfl rfl) ?_;refine GT_nil ?_;refine GE_cond rfl (fun q1 => ?_) (fun q1 => ?_)
  · refine Zs [5] rfl ?_;refine ZP 3 [2] rfl ?_;refine Zv rfl ?_;refine Za rfl (by omega) ?_;refine Zw rfl ?_;refine GT_nil ?_;refine Zp 2 [] rfl ?_;refine Zr 2 rfl ?_;refine GT_nil ?_;refine GE_ret Tryz.func168 rfl (fun w hw => ⟨?_, hw.nil⟩)
    refine congrArg I ?_;omega
  · refine GE_skip ?_;refine Zq [5] 2 [] rfl rfl ?_;refine Zr 2 rfl ?_;refine GT_nil ?_;refine GE_ret Tryz.func168 rfl (fun w hw => ⟨?_, hw.nil⟩)
    refine congrArg I ?_;omega
end
end Go.Proofs.YtncleikbggjmjaaGreatDoor.Side
/- A curve on the example's numbers, walked. -/
namespace Go.Proofs.YtncleikbggjmjaaGreatDoor.Side
open Go.Sx Go.Proofs Go.RowKit
theorem putL_get {cells : List Value} {q k j : Nat} {n : Int} (h1 : j ≠ q + k) (h2 : j ≠ q + 8) : (putL cells q k n)[j]? = cells[j]? := by
  unfold putL; rw [List.getElem?_set_ne (by omega), List.getElem?_set_ne (by omega)]
theorem putL_len (cells : List Value) (q k : Nat) (n : Int) : (putL cells q k n).length = cells.length := by simp [putL]
structure StOk (cells : List Value) (k : Nat) (vi vo : Int) (AF AB : Option Addr) (cF cB : Nat) : Prop where
  len : cells.length = 21
  k4 : k < 8
  nO : cells[0 + 8]? = some (I k)
  nI : cells[9 + 8]? = some (I k)
  lO : cells[0 + (k + 7) % 8]? = some (I vo)
  lI : cells[9 + (k + 7) % 8]? = some (I vi)
  fd : cells[18]? = some (.slice AF 1 cF)
  bk : cells[19]? = some (.slice AB 1 cB)
  sh : cells[20]? = some (I 256)
  bi : -100000 ≤ vi ∧ vi ≤ 100000
  bo : -100000 ≤ vo ∧ vo ≤ 100000
section
variable {w w0 : World} {AF AB A : Option Addr} {cF cB c b b3 b5 bw k : Nat} {cells : List Value} {vi vo : Int} {H1 : Items}
set_option maxRecDepth 20000 in
theorem C_correction (hb : BlkAt w b cells 309) (hs : StOk cells k vi vo AF AB cF cB) (hF : RdL w 1 eN AF [64]) (hB : RdL w 1 eN AB [128]) : Con0 Tryz.prog 157 [ptr b 0] w (I ((64 * vi + 128 * vo) / 256)) := by
  have h1 := hs.bi
  have h2 := hs.bo
  refine Ret_of (vs := [_]) hm none' Tryz.func157 rfl Tryz.ntmps157 rfl ?_
  dsimp only [slotsOf]
  refine Zp 1 [] rfl ?_;refine Zv rfl ?_;refine Zz ?_;refine GE_drawn (.st 0 (.st 1 (.st 2 (.st 3 (.st 4 (.st 5 (.st 6 (.st 7 (.st 9 (.st 10 (.st 11 (.st 12 (.st 13 (.st 14 (.st 15 (.st 16 (.st 19 (.st 20 (.st 21 (.st 22 (.st 23 (.ld 8 [9, 10, 11, 12, 13, 14, 15, 16, 19, 20, 21, 22, 23] (.ld 17 [19, 20, 21, 22, 23] (.st 18 (.ld 24 [] (.st 25 .nil)))))))))))))))))))))))))) [8, 17, 24] (by decide +kernel) ?_;refine Zr 2 rfl ?_;refine Zf rfl fo_309_1 ?_;refine Zr 2 rfl ?_;refine Zf rfl fo_309_2 ?_;refine Zf rfl fo_203_0 ?_;refine ZL rfl ag_43 (CellAt.old (hb.cell hs.fd) (noM _)) ?_;refine Zr 2 rfl ?_;refine Zf rfl fo_309_0 ?_;refine Zr 2 rfl ?_;refine Zf rfl fo_309_2 ?_;refine Zf rfl fo_203_1 ?_;refine ZL rfl ag_43 (CellAt.old (hb.cell hs.bk) (noM _)) ?_;refine Zr 2 rfl ?_;refine Zf rfl fo_309_2 ?_;refine Zf rfl fo_203_2 ?_;refine ZL rfl ag_2 (CellAt.old (hb.cell hs.sh) (noM _)) ?_;refine Zc rfl rn_169 (fun w hw => C_weigh (q := 9) (hb.sh hw) (hF.sh hw) hs.k4 hs.nI hs.lI (by decide) h1) (Rv rfl rfl (Rv rfl rfl (Rf rfl fo_309_0 rfl (Rv rfl rfl (Rv rfl rfl (Rf rfl fo_309_2 rfl (Rf rfl fo_203_1 rfl (GR_S rfl rfl (V_load rfl rfl ag_43 (CellAt.old (hb.cell hs.bk) (noM _))) (Rv rfl rfl (Rv rfl rfl (Rf rfl fo_309_2 rfl (Rf rfl fo_203_2 rfl (GR_S rfl rfl (V_load rfl rfl ag_2 (CellAt.old (hb.cell hs.sh) (noM _))) GR_nil))))))))))))) ?_;refine Zc rfl rn_169 (fun w hw => C_weigh (q := 0) (hb.sh hw) (hB.sh hw) hs.k4 hs.nO hs.lO (by decide) h2) (Rv rfl rfl (Rv rfl rfl (Rf rfl fo_309_2 rfl (Rf rfl fo_203_2 rfl (GR_S rfl rfl (V_load rfl rfl ag_2 (CellAt.old (hb.cell hs.sh) (noM _))) GR_nil))))) ?_;refine Za rfl (by omega) ?_;refine Zc rfl rn_168 (fun w hw => C_down (by omega)) GR_nil ?_;refine Zv rfl ?_;refine GT_nil ?_;refine GE_ret Tryz.func157 rfl (fun w hw => ⟨?_, hw.nil⟩)
  rfl
abbrev stH (b b5 b3 : Nat) (cells : List Value) : Items := (b, blk cells 309) :: (b5, blk [ptr b 0] 304) :: (b3, blk [.bool false] 4) :: []
set_option maxRecDepth 20000 in
theorem C_step1 {n : Int} (m : SH w0 none' ((b, blk cells 309) :: (b5, blk [ptr b 0] 304) :: (b3, blk [.bool false] 4) :: H1) w) (hs : StOk cells k vi vo AF AB cF cB) (hF : RdL w0 1 eN AF [64]) (hB : RdL w0 1 eN AB [128]) (hn : -100000 ≤ n ∧ n ≤ 100000) :
    Ret Tryz.prog 156 [I n, ptr b3 0, ptr b5 0].toArray w fun r w' => ∃ _ : Unit, True ∧ r = I (n + (64 * vi + 128 * vo) / 256) ∧ SH w0 none' ((b, blk (putL (putL cells 9 k n) 0 k (n + (64 * vi + 128 * vo) / 256)) 309) :: (b5, blk [ptr b 0] 304) :: (b3, blk [.bool false] 4) :: H1) w' := by
  have h1 := hs.bi
  have h2 := hs.bo
  have h3 := hs.k4
  have hl := hs.len
  have hn0 : (putL cells 9 k n)[0 + 8]? = some (I k) := by rw [putL_get (by omega) (by omega)]; exact hs.nO
  have hl2 := putL_len cells 9 k n
  refine Ret_ofH (vs := [_, _, _]) hm none' Tryz.func156 rfl Tryz.ntmps156 rfl m ?_
  dsimp only [slotsOf]
  refine Zp 1 [] rfl ?_;refine Zv rfl ?_;refine GT_nil ?_;refine Zp 4 [] rfl ?_;refine Zr 4 rfl ?_;refine Zz ?_;refine Zq [1, 2, 5, 6] 1 [] rfl rfl ?_;refine Zl rfl ag_4 rfl ?_;refine GT_nil ?_;refine GE_cond_f rfl ?_;refine GE_skip ?_;refine Zp 5 [2, 4] rfl ?_;refine Zv rfl ?_;refine Zl rfl ag_304 rfl ?_;refine Zc rfl rn_157 (fun w hw => C_correction (BlkAt.of hw) hs (hF.sh hw) (hB.sh hw)) GR_nil ?_;refine Za rfl (by omega) ?_;refine Zw rfl ?_;refine GT_nil ?_;refine Zq [2, 5, 6] 5 [4] rfl rfl ?_;refine Zl rfl ag_304 rfl ?_;refine Zv rfl ?_;refine Zf rfl fo_309_1 ?_;refine Zv rfl ?_;refine GT_callX rfl rfl rfl rfl rfl rfl rfl rfl rn_158 (fun w m => C_put (q := 9) (k := k) (m.hs (HS.cons rfl HS.all)) h3 hs.nI (by omega)) (fun _ _ => GR_nil) (fun _ _ => ?_);refine GT_nil ?_;refine Zq [2, 6] 5 [4] rfl rfl ?_;refine Zl rfl ag_304 rfl ?_;refine Zv rfl ?_;refine Zf rfl fo_309_0 ?_;refine Zv rfl ?_;refine GT_callX rfl rfl rfl rfl rfl rfl rfl rfl rn_158 (fun w m => C_put (q := 0) (k := k) (m.hs (HS.cons rfl HS.all)) h3 hn0 (by omega)) (fun _ _ => GR_nil) (fun _ _ => ?_);refine GT_nil ?_;refine Zq [6] 2 [] rfl rfl ?_;refine Zr 2 rfl ?_;refine GT_nil ?_;refine GE_ret Tryz.func156 rfl (fun w hw => ?_)
  exact ⟨(), trivial, rfl, hw.hs (C := cx Tryz.prog hm 0 0 w0 none' fun _ _ => True) (HS.cons rfl (HS.cons rfl (HS.cons rfl (HS.last (I := H1)))))⟩
theorem C_within1 {n : Int} (h : -32767 ≤ n ∧ n ≤ 32767) (hb : BlkAt w bw [I 32767] 2) : Con0 Tryz.prog 159 [I n, ptr bw 0] w (.bool true) := by
  refine Ret_of (vs := [_, _]) hm none' Tryz.func159 rfl Tryz.ntmps159 rfl ?_
  dsimp only [slotsOf]
  refine Zp 1 [] rfl ?_;refine Zv rfl ?_;refine GT_nil ?_;refine Zp 5 [2] rfl ?_;refine Zv rfl ?_;refine ZL rfl ag_2 (CellAt.old (hb.cell rfl) (noM _)) ?_;refine Zc rfl rn_160 (fun w hw => C_beyond ⟨by decide, h⟩) GR_nil ?_;refine GT_S rfl (V_notB rfl rfl) ?_;refine Zv rfl ?_;refine GT_nil ?_;refine GE_ret Tryz.func159 rfl (fun w hw => ⟨?_, hw.nil⟩)
  rfl
theorem C_within : Con Tryz.prog 139 [I 32767] w (fun _ : Nat => True) (fun b => .func (.func 159) #[] #[ptr b 0]) (fun b => [(b, blk [I 32767] 2)]) := by
  refine Ret_of (vs := [_]) hm none' Tryz.func139 rfl Tryz.ntmps139 rfl ?_
  dsimp only [slotsOf]
  refine Zp 2 [0] rfl ?_;refine Zx [_] rfl rfl fun b1 => ?_;refine Zv rfl ?_;refine GT_nil ?_;refine Zp 2 [] rfl ?_;refine GT_S rfl (V_makeFunc rfl rfl rfl) ?_;refine Zv rfl ?_;refine GT_nil ?_;refine GE_ret Tryz.func139 rfl (fun w hw => ?_)
  exact ⟨_, trivial, rfl, hw.hs (C := cx Tryz.prog hm 0 0 _ none' fun _ _ => True) (HS.cons rfl HS.nil)⟩
abbrev st0 (AF AB : Option Addr) (cF cB : Nat) : List Value := [I 0, I 0, I 0, I 0, I 0, I 0, I 0, I 0, I 0, I 0, I 0, I 0, I 0, I 0, I 0, I 0, I 0, I 0, .slice AF 1 cF, .slice AB 1 cB, I 256]
theorem C_step : Con Tryz.prog 138 [.agg #[.slice AF 1 cF, .slice AB 1 cB, I 256], .bool false] w (fun _ : Nat × Nat × Nat => True) (fun y => .func (.func 156) #[] #[ptr y.2.2 0, ptr y.2.1 0]) (fun y => stH y.1 y.2.1 y.2.2 (st0 AF AB cF cB)) := by
  refine Ret_of (vs := [_, _]) hm none' Tryz.func138 rfl Tryz.ntmps138 rfl ?_
  dsimp only [slotsOf]
  refine Zp 3 [0, 1] rfl ?_;refine Zx [_, _, _] rfl rfl fun b2 => ?_;refine Zx [_] rfl rfl fun b3 => ?_;refine Zv rfl ?_;refine GT_nil ?_;refine Zp 5 [2, 3, 4] rfl ?_;refine ZN [_, _, _] rfl ag_203 sz_203 rfl rfl ?_;refine GT_S rfl (V_build (vs := [_, _, _, _, _, _, _, _, _, _, _, _, _, _, _, _, _, _, _, _, _]) rfl rfl zc_309 pl_309 sa_309 rfl) ?_;refine Zx [_, _, _, _, _, _, _, _, _, _, _, _, _, _, _, _, _, _, _, _, _] rfl rfl fun b8 => ?_;refine Zb rfl zc_304 fun b5 => ?_;refine ZS [_] [_] rfl rfl sz_304 rfl rfl rfl ?_;refine GT_nil ?_;refine Zq [3, 5] 2 [] rfl rfl ?_;refine GT_S rfl (V_makeFunc rfl rfl rfl) ?_;refine Zv rfl ?_;refine GT_nil ?_;refine GE_ret Tryz.func138 rfl (fun w hw => ?_)
  exact ⟨(b8, b5, b3), trivial, rfl, hw.hs (C := cx Tryz.prog hm 0 0 _ none' fun _ _ => True) (HS.cons rfl (HS.cons rfl (HS.cons rfl HS.nil)))⟩
end
end Go.Proofs.YtncleikbggjmjaaGreatDoor.Side
/- A curve on the example's numbers: Apply, walked. -/
namespace Go.Proofs.YtncleikbggjmjaaGreatDoor.Side
open Go.Sx Go.Proofs Go.RowKit
def xsE : List Int := [100, 0, 0, -3]
def ysE : List Int := [100, 75, 37, 15]
def viE : List Int := [0, 100, 0, 0]
def voE : List Int := [0, 100, 75, 37]
def exS (AF AB : Option Addr) (cF cB : Nat) : Nat → List Value
  | 0 => [I 0, I 0, I 0, I 0, I 0, I 0, I 0, I 0, I 0, I 0, I 0, I 0, I 0, I 0, I 0, I 0, I 0, I 0, .slice AF 1 cF, .slice AB 1 cB, I 256]
  | 1 => [I 100, I 0, I 0, I 0, I 0, I 0, I 0, I 0, I 1, I 100, I 0, I 0, I 0, I 0, I 0, I 0, I 0, I 1, .slice AF 1 cF, .slice AB 1 cB, I 256]
  | 2 => [I 100, I 75, I 0, I 0, I 0, I 0, I 0, I 0, I 2, I 100, I 0, I 0, I 0, I 0, I 0, I 0, I 0, I 2, .slice AF 1 cF, .slice AB 1 cB, I 256]
  | 3 => [I 100, I 75, I 37, I 0, I 0, I 0, I 0, I 0, I 3, I 100, I 0, I 0, I 0, I 0, I 0, I 0, I 0, I 3, .slice AF 1 cF, .slice AB 1 cB, I 256]
  | _ => [I 100, I 75, I 37, I 15, I 0, I 0, I 0, I 0, I 4, I 100, I 0, I 0, I (-3), I 0, I 0, I 0, I 0, I 4, .slice AF 1 cF, .slice AB 1 cB, I 256]
section
variable {AF AB : Option Addr} {cF cB k : Nat}
theorem exOk (hk : k < 4) : StOk (exS AF AB cF cB k) k (viE.getD k 0) (voE.getD k 0) AF AB cF cB := by
  rcases (show k = 0 ∨ k = 1 ∨ k = 2 ∨ k = 3 by omega) with rfl | rfl | rfl | rfl <;> exact ⟨rfl, by decide, rfl, rfl, rfl, rfl, rfl, rfl, rfl, by decide, by decide⟩
theorem exY (hk : k < 4) : xsE.getD k 0 + (64 * viE.getD k 0 + 128 * voE.getD k 0) / 256 = ysE.getD k 0 := by
  rcases (show k = 0 ∨ k = 1 ∨ k = 2 ∨ k = 3 by omega) with rfl | rfl | rfl | rfl <;> decide
theorem exStep (hk : k < 4) : putL (putL (exS AF AB cF cB k) 9 k (xsE.getD k 0)) 0 k (ysE.getD k 0) = exS AF AB cF cB (k + 1) := by
  rcases (show k = 0 ∨ k = 1 ∨ k = 2 ∨ k = 3 by omega) with rfl | rfl | rfl | rfl <;> rfl
theorem xsE_bd (hk : k < 4) : -32767 ≤ xsE.getD k 0 ∧ xsE.getD k 0 ≤ 32767 := by
  rcases (show k = 0 ∨ k = 1 ∨ k = 2 ∨ k = 3 by omega) with rfl | rfl | rfl | rfl <;> decide
theorem ysE_bd (hk : k < 4) : -32767 ≤ ysE.getD k 0 ∧ ysE.getD k 0 ≤ 32767 := by
  rcases (show k = 0 ∨ k = 1 ∨ k = 2 ∨ k = 3 by omega) with rfl | rfl | rfl | rfl <;> decide
theorem ysE_take (hk : k < 4) : ysE.take k ++ [ysE.getD k 0] = ysE.take (k + 1) := by
  rcases (show k = 0 ∨ k = 1 ∨ k = 2 ∨ k = 3 by omega) with rfl | rfl | rfl | rfl <;> rfl
theorem ysE_len (hk : k ≤ 4) : (ysE.take k).length = k := by rw [List.length_take]; show min k 4 = k; omega
end
section
variable {w w0 : World} {AF AB A AX : Option Addr} {cF cB c cX b b3 b5 bw : Nat} {IX H1 : Items}
set_option maxRecDepth 20000 in
theorem C_each (m : SH w0 none' ((b, blk (exS AF AB cF cB 0) 309) :: (b5, blk [ptr b 0] 304) :: (b3, blk [.bool false] 4) :: (bw, blk [I 32767] 2) :: (IX ++ H1)) w) (hX : Own 1 2 eN xsE (.slice A 4 c) IX) (hF : RdL w0 1 eN AF [64]) (hB : RdL w0 1 eN AB [128]) :
    Ret Tryz.prog 137 [.slice A 4 c, .func (.func 156) #[] #[ptr b3 0, ptr b5 0], .func (.func 159) #[] #[ptr bw 0]].toArray w fun r w' => ∃ y : Option Addr × Nat × Items, Own 1 2 eN ysE (.slice y.1 4 y.2.1) y.2.2 ∧ r = .tuple #[.slice y.1 4 y.2.1, I 0] ∧ SH w0 none' (y.2.2 ++ H1) w' := by
  refine Ret_ofH (vs := [_, _, _]) hm none' Tryz.func137 rfl Tryz.ntmps137 rfl m ?_
  dsimp only [slotsOf]
  refine Zp 2 [] rfl ?_;refine Zr 2 rfl ?_;refine GT_nil ?_;refine Zp 4 [2] rfl ?_;refine Zv rfl ?_;refine Zn rfl Tryz.underlying43 ?_;refine GT_makeSliceC (mm := 0) (nn := 4) rfl rfl rfl rfl rfl rfl rfl Tryz.underlying43 zc_2 sz_2 by_2 ⟨rfl, rfl, rfl⟩ (by decide) (by decide) (fun _ => GR_nil) (fun b14 => ?_);refine Zv rfl ?_;refine Zz ?_;refine Zq [0, 1, 2, 8] 3 [] rfl rfl ?_;refine Zv rfl ?_;refine Zn rfl Tryz.underlying43 ?_;refine Zv rfl ?_;refine GT_nil ?_;refine GE_block ?_;refine GE_to (GE_loop (ι := Nat × (Option Addr × Nat × Items)) (fun z => 4 - z.1) (fun z => [(1, .func (.func 156) #[] #[ptr b3 0, ptr b5 0]), (2, .func (.func 159) #[] #[ptr bw 0]), (8, .slice z.2.1 z.1 z.2.2.1), (15, .slice A 4 c), (16, I 4), (17, I z.1)]) (fun z => (b, blk (exS AF AB cF cB z.1) 309) :: (b5, blk [ptr b 0] 304) :: (b3, blk [.bool false] 4) :: (bw, blk [I 32767] 2) :: (IX ++ (z.2.2.2 ++ H1))) (fun z => z.1 ≤ 4 ∧ Own 1 2 eN (ysE.take z.1) (.slice z.2.1 z.1 z.2.2.1) z.2.2.2) ?_ (0, (some ⟨b14, 0, none⟩, 4, [(b14, blk ((List.replicate 4 [I 0]).flatten) 2)])) ?_) ⟨rfl, rfl, rfl, rfl, rfl, rfl, trivial⟩ (HS.cons rfl (HS.cons rfl (HS.cons rfl (HS.cons rfl (HS.chunk (HS.cons rfl (HS.last (I := H1))))))))
  · rintro ⟨k, y⟩ ⟨hk, hO⟩ ih; dsimp only at hk hO ih ⊢
    refine Zp 1 [] rfl ?_;refine GT_S rfl (V_lss rfl rfl rfl) ?_;refine Zz ?_;refine GE_cond rfl (fun q1 => ?_) (fun q1 => ?_)
    · have hk4 : k < 4 := (by omega)
      refine GE_skip ?_;refine GE_seq ?_;refine GE_block ?_;refine Zp 3 [] rfl ?_;refine GT_S rfl (V_index rfl rfl rfl Tryz.underlying43 sz_2 (k := k) rfl hk4 (hX.isSome (k := k) hk4)) ?_;refine ZL rfl ag_2 (CellAt.own0 (k := k) hX eN_len hk4 (show _ = some (I (xsE.getD k 0)) from rfl)) ?_;refine Zv rfl ?_;refine GT_nil ?_;refine Zp 4 [2] rfl ?_;refine Zr 2 rfl ?_;refine GT_callX rfl rfl rfl rfl rfl rfl rfl rfl rn_156 (fun w m => C_step1 (b := b) (b5 := b5) (b3 := b3) (cells := exS AF AB cF cB k) (n := xsE.getD k 0) (m.hs (HS.cons rfl (HS.cons rfl (HS.cons rfl HS.all)))) (exOk hk4) hF hB (by have := xsE_bd hk4; omega)) (fun _ _ => GR_nil) (fun _ _ => ?_)
      rw [exY hk4, exStep hk4]
      refine Zv rfl ?_;refine Zz ?_;refine Zq [1, 2, 8, 11, 15, 16, 17] 4 [2] rfl rfl ?_;refine Zr 2 rfl ?_;refine Zc rfl rn_159 (fun w hw => C_within1 (ysE_bd hk4) (BlkAt.of hw)) GR_nil ?_;refine GT_S rfl (V_notB rfl rfl) ?_;refine GT_nil ?_;refine GE_cond_f rfl ?_;refine GE_skip ?_;refine Zs [1, 2, 8, 11, 15, 16, 17] rfl ?_;refine ZP 5 [2, 3, 4] rfl ?_;refine Zr 2 rfl ?_;refine GT_buildSlice (z := [_]) rfl rfl rfl rfl rfl Tryz.underlying43 zc_2 sz_2 (by decide) rfl rfl (fun _ => GR_nil) (fun b30 => ?_);refine GT_append (enc := eN) (l := ysE.take k) (m := [ysE.getD k 0]) rfl rfl rfl rfl rfl rfl rfl hO (fun w m => RdL.own' m eN_len) Tryz.underlying43 zc_2 sz_2 ⟨rfl, by decide⟩ by_2 ⟨by rw [ysE_len hk]; simp only [List.length_singleton]; omega, by rw [ysE_len hk]; simp only [List.length_singleton]; omega⟩ eN_len eN_one (fun _ _ _ _ => GR_nil) (fun A3 c3 I3 hO3 => ?_)
      rw [ysE_take hk4, ysE_len (k := k + 1) (by omega)] at hO3 ⊢
      refine Zw rfl ?_;refine GT_nil ?_;refine GE_inBlock ?_;refine Zs [1, 2, 8, 15, 16, 17] rfl ?_;refine ZP 2 [1] rfl ?_;refine Za rfl (by omega) ?_;refine Zw rfl ?_;refine GT_nil ?_
      exact GE_to (ih (k + 1, (A3, c3, I3)) ⟨by dsimp only; omega, hO3⟩ (by dsimp only; omega)) ⟨rfl, rfl, rfl, rfl, rfl, rfl, trivial⟩ (HS.cons rfl (HS.cons rfl (HS.cons rfl (HS.cons rfl (HS.chunk (HS.chunk (HS.last (I := H1))))))))
    · obtain rfl : k = 4 := (by omega)
      refine GE_exit rfl ?_;refine Zq [8] 3 [] rfl rfl ?_;refine Zr 3 rfl ?_;refine GT_nil ?_;refine GE_ret Tryz.func137 ⟨_, _, rfl, rfl, rfl⟩ (fun w hw => ?_)
      exact ⟨y, hO, rfl, hw.hs (C := cx Tryz.prog hm 0 0 w0 none' fun _ _ => True) (HS.chunk (HS.last (I := H1)))⟩
  · exact ⟨Nat.zero_le _, .inr ⟨b14, 4, [I 0, I 0, I 0, I 0], rfl, rfl, rfl, Nat.zero_le _, by unfold maxLen; decide⟩⟩
theorem C_CloneL (h : RdL w 1 eN A xsE) (hA : A.isSome = true) : Con Tryz.prog 136 [.slice A 4 c] w (fun y : Option Addr × Nat × Items => Own 1 2 eN xsE (.slice y.1 4 y.2.1) y.2.2) (fun y => .slice y.1 4 y.2.1) (fun y => y.2.2) := by
  obtain ⟨a, rfl⟩ := Option.isSome_iff_exists.1 hA
  refine Ret_of (vs := [_]) hm none' Tryz.func136 rfl Tryz.ntmps136 rfl ?_
  dsimp only [slotsOf]
  refine Zp 1 [] rfl ?_;refine Zv rfl ?_;refine Zz ?_;refine Zp 2 [] rfl ?_;refine Zv rfl ?_;refine GT_S rfl (V_eqlNilF rfl rfl rfl Tryz.underlying43) ?_;refine GT_nil ?_;refine GE_cond_f rfl ?_;refine GE_skip ?_;refine Zp 4 [0, 2] rfl ?_;refine GT_buildSlice (z := []) rfl rfl rfl rfl rfl Tryz.underlying43 zc_2 sz_2 (by decide) rfl rfl (fun _ => GR_nil) (fun b5 => ?_)
  have ho5 : Own 1 2 eN [] (.slice (some ⟨b5, 0, none⟩) 0 0) [(b5, blk [] 2)] := Own.lit rfl rfl (by decide)
  refine Zv rfl ?_;refine GT_append (enc := eN) (l := []) (m := xsE) rfl rfl rfl rfl rfl rfl rfl ho5 (fun w m => h.sh m) Tryz.underlying43 zc_2 sz_2 ⟨rfl, by decide⟩ by_2 ⟨by decide, by decide⟩ eN_len eN_one (fun _ _ _ _ => GR_nil) (fun A3 c3 I3 hO3 => ?_);refine Zv rfl ?_;refine GT_nil ?_;refine GE_ret Tryz.func136 rfl (fun w hw => ?_)
  exact ⟨(A3, c3, I3), hO3, rfl, hw.hs (C := cx Tryz.prog hm 0 0 _ none' fun _ _ => True) HS.last⟩
set_option maxRecDepth 20000 in
theorem C_chain {bc : Nat} (hF : RdL w 1 eN AF [64]) (hB : RdL w 1 eN AB [128]) (hb : BlkAt w bc [.slice AF 1 cF, .slice AB 1 cB, I 256] 203) (hX : RdL w 1 eN AX xsE) (hA : AX.isSome = true) :
    Con Tryz.prog 118 [.slice (some ⟨bc, 0, none⟩) 1 1, .slice AX 4 cX, .bool false] w (fun y : Option Addr × Nat × Items => Own 1 2 eN ysE (.slice y.1 4 y.2.1) y.2.2) (fun y => .tuple #[.slice y.1 4 y.2.1, I 0]) (fun y => y.2.2) := by
  refine Ret_of (vs := [_, _, _]) hm none' Tryz.func118 rfl Tryz.ntmps118 rfl ?_
  dsimp only [slotsOf]
  refine Zp 2 [] rfl ?_;refine Zr 2 rfl ?_;refine Zz ?_;refine Zp 3 [1] rfl ?_;refine Zv rfl ?_;refine Zc rfl rn_134 (fun w hw => C_checkChain (hF.sh hw) (hB.sh hw) (hb.sh hw)) GR_nil ?_;refine Zv rfl ?_;refine GT_nil ?_;refine Zq [0, 1, 2, 8] 2 [] rfl rfl ?_;refine Zv rfl ?_;refine GT_S rfl (V_isF (V_neq rfl rfl rfl) (fun q => q rfl)) ?_;refine GT_nil ?_;refine GE_cond_f rfl ?_;refine GE_skip ?_;refine GE_seq ?_;refine Zp 3 [1] rfl ?_;refine Zv rfl ?_;refine Zc rfl rn_135 (fun w hw => C_checkSignal (l := xsE) (hX.sh hw) (by decide) (by decide)) GR_nil ?_;refine Zv rfl ?_;refine GT_nil ?_;refine Zq [0, 1, 2, 9] 2 [] rfl rfl ?_;refine Zv rfl ?_;refine GT_S rfl (V_isF (V_neq rfl rfl rfl) (fun q => q rfl)) ?_;refine GT_nil ?_;refine GE_cond_f rfl ?_;refine GE_skip ?_;refine Zp 3 [1, 2] rfl ?_;refine Zv rfl ?_;refine ZC rfl rn_136 (fun w hw => C_CloneL (hX.sh hw) hA) (fun _ _ => GR_nil) (fun y0 hy0 => ?_);refine Zw rfl ?_;refine Zz ?_;refine Zq [0, 1, 2] 3 [] rfl rfl ?_;refine Zv rfl ?_;refine Zn rfl Tryz.underlying258 ?_;refine Zv rfl ?_;refine GT_nil ?_;refine GE_block ?_;refine GE_to (GE_loop (ι := Nat × (Option Addr × Nat × Items)) (fun z => 1 - z.1) (fun z => [(0, .slice (some ⟨bc, 0, none⟩) 1 1), (1, .slice z.2.1 4 z.2.2.1), (2, .bool false), (27, I 1), (28, I z.1)]) (fun z => z.2.2.2) (fun z => z.1 ≤ 1 ∧ Own 1 2 eN (if z.1 = 0 then xsE else ysE) (.slice z.2.1 4 z.2.2.1) z.2.2.2) ?_ (0, y0) ?_) ⟨rfl, rfl, rfl, rfl, rfl, trivial⟩ HS.last
  · rintro ⟨k, y⟩ ⟨hk, hO⟩ ih; dsimp only at hk hO ih ⊢
    refine Zp 1 [] rfl ?_;refine GT_S rfl (V_lss rfl rfl rfl) ?_;refine Zz ?_;refine GE_cond rfl (fun q1 => ?_) (fun q1 => ?_)
    · obtain rfl : k = 0 := (by omega)
      refine GE_skip ?_;refine GE_seq ?_;refine GE_block ?_;refine Zp 2 [] rfl ?_;refine Zr 2 rfl ?_;refine GT_nil ?_;refine Zp 6 [4, 5] rfl ?_;refine Zr 2 rfl ?_;refine GT_S rfl (V_index rfl rfl rfl Tryz.underlying258 sz_203 (k := 0) rfl Nat.zero_lt_one rfl) ?_;refine GT_S rfl (V_loadN (vs := [_, _, _]) rfl rfl ag_203 sz_203 rfl (show CellsAt _ _ ⟨bc, 0 * 3, none⟩ [.slice AF 1 cF, .slice AB 1 cB, I 256] from fun j v hj => by rw [add_lit, Nat.zero_mul, Nat.zero_add]; exact CellAt.old (hb.cell hj) (noM _))) ?_;refine Zb rfl zc_203 fun b11 => ?_;refine ZS [_, _, _] [_, _, _] rfl rfl sz_203 rfl rfl rfl ?_;refine Zz ?_;refine Zq [0, 1, 2, 10, 11, 27, 28] 1 [] rfl rfl ?_;refine Zv rfl ?_;refine GT_nil ?_;refine GE_cond_f rfl ?_;refine GE_skip ?_;refine Zp 11 [3, 4, 5] rfl ?_;refine Zv rfl ?_;refine ZN [_, _, _] rfl ag_203 sz_203 rfl rfl ?_;refine Zv rfl ?_;refine ZC rfl rn_138 (fun w hw => C_step) (fun _ _ => GR_nil) (fun s _ => ?_);refine ZC rfl rn_139 (fun w hw => C_within) (fun _ _ => GR_nil) (fun bw _ => ?_);refine GT_callX rfl rfl rfl rfl rfl rfl rfl rfl rn_137 (fun w m => C_each (b := s.1) (b5 := s.2.1) (b3 := s.2.2) (bw := bw) (IX := y.2.2) (m.hs (HS.cons rfl (HS.cons rfl (HS.cons rfl (HS.cons rfl (HS.chunk HS.all)))))) hO hF hB) (fun _ _ => GR_nil) (fun y50 hy50 => ?_);refine Zr 5 rfl ?_;refine Zz ?_;refine Zq [0, 2, 12, 13, 27, 28] 2 [] rfl rfl ?_;refine Zv rfl ?_;refine GT_S rfl (V_isF (V_neq rfl rfl rfl) (fun q => q rfl)) ?_;refine GT_nil ?_;refine GE_cond_f rfl ?_;refine GE_skip ?_;refine ZP 2 [] rfl ?_;refine Zr 2 rfl ?_;refine GT_nil ?_;refine GE_inBlock ?_;refine Zs [0, 1, 2, 27, 28] rfl ?_;refine ZP 2 [1] rfl ?_;refine Za rfl (by omega) ?_;refine Zw rfl ?_;refine GT_nil ?_
      exact GE_to (ih (1, y50) ⟨Nat.le_refl _, hy50⟩ (show 1 - 1 < 1 - 0 by decide)) ⟨rfl, rfl, rfl, rfl, rfl, trivial⟩ HS.last
    · obtain rfl : k = 1 := (by omega)
      refine GE_exit rfl ?_;refine Zq [1] 3 [] rfl rfl ?_;refine Zr 3 rfl ?_;refine GT_nil ?_;refine GE_ret Tryz.func118 ⟨_, _, rfl, rfl, rfl⟩ (fun w hw => ?_)
      exact ⟨y, hO, rfl, hw.hs (C := cx Tryz.prog hm 0 0 _ none' fun _ _ => True) HS.last⟩
  · exact ⟨Nat.zero_le _, hy0⟩
theorem C_Apply (hF : RdL w 1 eN AF [64]) (hB : RdL w 1 eN AB [128]) (hX : RdL w 1 eN AX xsE) (hA : AX.isSome = true) :
    Con Tryz.prog 91 [.agg #[.slice AF 1 cF, .slice AB 1 cB, I 256], .slice AX 4 cX] w (fun y : Option Addr × Nat × Items => Own 1 2 eN ysE (.slice y.1 4 y.2.1) y.2.2) (fun y => .tuple #[.slice y.1 4 y.2.1, I 0]) (fun y => y.2.2) := by
  refine Ret_of (vs := [_, _]) hm none' Tryz.func91 rfl Tryz.ntmps91 rfl ?_
  dsimp only [slotsOf]
  refine Zp 3 [0] rfl ?_;refine Zx [_, _, _] rfl rfl fun b2 => ?_;refine Zr 2 rfl ?_;refine GT_nil ?_;refine Zp 8 [1, 3] rfl ?_;refine ZN [_, _, _] rfl ag_203 sz_203 rfl rfl ?_;refine GT_buildSlice (z := [_, _, _]) rfl rfl rfl rfl rfl Tryz.underlying258 zc_203 sz_203 (by decide) rfl rfl (fun _ => GR_nil) (fun b7 => ?_);refine Zv rfl ?_;refine ZC rfl rn_118 (fun w hw => C_chain (hF.sh hw) (hB.sh hw) (BlkAt.of hw) (hX.sh hw) hA) (fun _ _ => GR_nil) (fun y hy => ?_);refine Zr 4 rfl ?_;refine GT_nil ?_;refine GE_ret Tryz.func91 ⟨_, _, rfl, rfl, rfl⟩ (fun w hw => ?_)
  exact ⟨y, hy, rfl, hw.hs (C := cx Tryz.prog hm 0 0 _ none' fun _ _ => True) HS.last⟩
end
end Go.Proofs.YtncleikbggjmjaaGreatDoor.Side
/- The groove of the example: cutters, points, Cut, walked. -/
namespace Go.Proofs.YtncleikbggjmjaaGreatDoor.Side
open Go.Sx Go.Proofs Go.RowKit
def eP2 (p : Int × Int) : List Value := [I p.1, I p.2]
theorem eP2_len (p : Int × Int) : (eP2 p).length = 2 := rfl
theorem eP2_one : ∀ x, ∀ u ∈ eP2 x, u.oneCell' = true := by intro x u hu; simp only [eP2, List.mem_cons, List.not_mem_nil, or_false] at hu; rcases hu with rfl | rfl <;> rfl
abbrev cutV : Value := .agg #[I 400, I 2000, I 200, I 2000, I 1000, I 1000, I 100]
abbrev cutC : List Value := [I 400, I 2000, I 200, I 2000, I 1000, I 1000, I 100]
def ptE : List (Int × Int) := [(-400, 400), (-200, 600), (-400, 400)]
def ckE : List (Int × Int × Int) := [(400, 1, 4096), (2000, 0, 100000), (200, 0, 2000), (2000, 0, 1048576), (1000, 0, 10000), (1000, 0, 1048576), (100, 0, 1024)]
section
variable {w : World} {A : Option Addr} {c k : Nat}
theorem C_gbetween {x lo hi : Int} (h : lo ≤ x ∧ x ≤ hi) : Con0 Tryz.prog 122 [I x, I lo, I hi] w (.bool true) := by
  refine Ret_of (vs := [_, _, _]) hm none' Tryz.func122 rfl Tryz.ntmps122 rfl ?_
  dsimp only [slotsOf]
  refine Zp 1 [] rfl ?_;refine Zv rfl ?_;refine GT_nil ?_;refine Zp 9 [] rfl ?_;refine Zr 2 rfl ?_;refine GT_S rfl (V_isT (V_geq rfl rfl rfl) h.1) ?_;refine Zr 3 rfl ?_;refine GT_S rfl (V_isT (V_leq rfl rfl rfl) h.2) ?_;refine Zr 2 rfl ?_;refine GT_nil ?_;refine GE_ret Tryz.func122 rfl (fun w hw => ⟨?_, hw.nil⟩)
  rfl
theorem ckE_ok (hk : k < 7) : (ckE.getD k (0, 0, 0)).2.1 ≤ (ckE.getD k (0, 0, 0)).1 ∧ (ckE.getD k (0, 0, 0)).1 ≤ (ckE.getD k (0, 0, 0)).2.2 := by
  rcases (show k = 0 ∨ k = 1 ∨ k = 2 ∨ k = 3 ∨ k = 4 ∨ k = 5 ∨ k = 6 by omega) with rfl | rfl | rfl | rfl | rfl | rfl | rfl <;> decide
abbrev ckC : List Value := [I 400, I 1, I 4096, I 2000, I 0, I 100000, I 200, I 0, I 2000, I 2000, I 0, I 1048576, I 1000, I 0, I 10000, I 1000, I 0, I 1048576, I 100, I 0, I 1024]
theorem ckC_at (hk : k < 7) : (ckC.drop (k * 3)).take 3 = [I (ckE.getD k (0, 0, 0)).1, I (ckE.getD k (0, 0, 0)).2.1, I (ckE.getD k (0, 0, 0)).2.2] := by
  rcases (show k = 0 ∨ k = 1 ∨ k = 2 ∨ k = 3 ∨ k = 4 ∨ k = 5 ∨ k = 6 by omega) with rfl | rfl | rfl | rfl | rfl | rfl | rfl <;> rfl
set_option maxRecDepth 20000 in
theorem C_gCheck : Con0 Tryz.prog 110 [cutV] w (I 0) := by
  refine Ret_of (vs := [_]) hm none' Tryz.func110 rfl Tryz.ntmps110 rfl ?_
  dsimp only [slotsOf]
  refine Zp 2 [0] rfl ?_;refine Zx [_, _, _, _, _, _, _] rfl rfl fun b1 => ?_;refine Zv rfl ?_;refine Zz ?_;refine Zp 25 [] rfl ?_;refine Zg rfl fo_195_0 rfl ag_2 rfl ?_;refine GT_S rfl (V_build (vs := [_, _, _]) rfl rfl zc_158 pl_158 sa_158 rfl) ?_;refine Zg rfl fo_195_1 rfl ag_2 rfl ?_;refine GT_S rfl (V_build (vs := [_, _, _]) rfl rfl zc_158 pl_158 sa_158 rfl) ?_;refine Zg rfl fo_195_2 rfl ag_2 rfl ?_;refine Zg rfl fo_195_3 rfl ag_2 rfl ?_;refine GT_S rfl (V_build (vs := [_, _, _]) rfl rfl zc_158 pl_158 sa_158 rfl) ?_;refine Zg rfl fo_195_3 rfl ag_2 rfl ?_;refine GT_S rfl (V_build (vs := [_, _, _]) rfl rfl zc_158 pl_158 sa_158 rfl) ?_;refine Zg rfl fo_195_4 rfl ag_2 rfl ?_;refine GT_S rfl (V_build (vs := [_, _, _]) rfl rfl zc_158 pl_158 sa_158 rfl) ?_;refine Zg rfl fo_195_5 rfl ag_2 rfl ?_;refine GT_S rfl (V_build (vs := [_, _, _]) rfl rfl zc_158 pl_158 sa_158 rfl) ?_;refine Zg rfl fo_195_6 rfl ag_2 rfl ?_;refine GT_S rfl (V_build (vs := [_, _, _]) rfl rfl zc_158 pl_158 sa_158 rfl) ?_;refine GT_S rfl (V_build (vs := [_, _, _, _, _, _, _, _, _, _, _, _, _, _, _, _, _, _, _, _, _]) rfl rfl zc_274 pl_274 sa_274 rfl) ?_;refine Zv rfl ?_;refine GT_nil ?_;refine GE_block ?_;refine GE_to (GE_loop (ι := Nat) (fun k => 7 - k) (fun k => [(28, .agg ckC.toArray), (29, I k)]) (fun k => []) (fun k => k ≤ 7) ?_ 0 ?_) ⟨rfl, rfl, trivial⟩ HS.nil
  · intro k hk ih
    refine Zp 1 [] rfl ?_;refine GT_S rfl (V_lss rfl rfl rfl) ?_;refine Zz ?_;refine GE_cond rfl (fun q1 => ?_) (fun q1 => ?_)
    · have hk7 : k < 7 := (by omega); have hck := ckE_ok hk7
      refine GE_skip ?_;refine GE_seq ?_;refine GE_block ?_;refine Zp 3 [1, 2] rfl ?_;refine GT_S rfl (V_indexAggN (vs := [_, _, _]) rfl rfl rfl Tryz.underlying274 ag_158 sz_158 rfl (by omega) (ckC_at hk7)) ?_;refine Zb rfl zc_158 fun b4 => ?_;refine ZS [_, _, _] [_, _, _] rfl rfl sz_158 rfl rfl rfl ?_;refine GT_nil ?_;refine Zp 8 [6] rfl ?_;refine GT_S rfl (V_indexArr (kk := 0) rfl rfl rfl Tryz.underlying158 sz_2 rfl (by omega)) ?_;refine Zl rfl ag_2 rfl ?_;refine GT_S rfl (V_indexArr (kk := 1) rfl rfl rfl Tryz.underlying158 sz_2 rfl (by omega)) ?_;refine Zl rfl ag_2 rfl ?_;refine GT_S rfl (V_indexArr (kk := 2) rfl rfl rfl Tryz.underlying158 sz_2 rfl (by omega)) ?_;refine Zl rfl ag_2 rfl ?_;refine Zc rfl rn_122 (fun w hw => C_gbetween hck) GR_nil ?_;refine GT_S rfl (V_notB rfl rfl) ?_;refine GT_nil ?_;refine GE_cond_f rfl ?_;refine GE_skip ?_;refine GE_inBlock ?_;refine Zs [28, 29] rfl ?_;refine ZP 2 [1] rfl ?_;refine Za rfl (by omega) ?_;refine Zw rfl ?_;refine GT_nil ?_
      exact GE_to (ih (k + 1) (by omega) (by omega)) ⟨rfl, rfl, trivial⟩ HS.nil
    · refine GE_exit rfl ?_;refine Zp 1 [] rfl ?_;refine Zv rfl ?_;refine GT_nil ?_;refine GE_ret Tryz.func110 rfl (fun w hw => ⟨?_, hw.nil⟩)
      rfl
  · exact Nat.zero_le _
theorem C_edged {p : Int × Int} (h1 : -4194304 ≤ p.1 ∧ p.1 ≤ 4194304) (h2 : -4194304 ≤ p.2 ∧ p.2 ≤ 4194304) : Con0 Tryz.prog 96 [.agg #[I p.1, I p.2]] w (.bool true) := by
  refine Ret_of (vs := [_]) hm none' Tryz.func96 rfl Tryz.ntmps96 rfl ?_
  dsimp only [slotsOf]
  refine Zp 2 [0] rfl ?_;refine Zx [_, _] rfl rfl fun b1 => ?_;refine Zv rfl ?_;refine GT_nil ?_;refine Zp 9 [2, 6] rfl ?_;refine Zg rfl fo_115_0 rfl ag_2 rfl ?_;refine Zc rfl rn_122 (fun w hw => C_gbetween h1) GR_nil ?_;refine Zv rfl ?_;refine Zg rfl fo_115_1 rfl ag_2 rfl ?_;refine Zc rfl rn_122 (fun w hw => C_gbetween h2) GR_nil ?_;refine Zr 2 rfl ?_;refine GT_nil ?_;refine GE_ret Tryz.func96 rfl (fun w hw => ⟨?_, hw.nil⟩)
  rfl
theorem ptE_bd (hk : k < 3) : (-4194304 ≤ (ptE.getD k default).1 ∧ (ptE.getD k default).1 ≤ 4194304) ∧ (-4194304 ≤ (ptE.getD k default).2 ∧ (ptE.getD k default).2 ≤ 4194304) := by
  rcases (show k = 0 ∨ k = 1 ∨ k = 2 by omega) with rfl | rfl | rfl <;> decide
theorem C_gCheckPoints (h : RdL w 2 eP2 A ptE) : Con0 Tryz.prog 81 [.slice A 3 c] w (I 0) := by
  refine Ret_of (vs := [_]) hm none' Tryz.func81 rfl Tryz.ntmps81 rfl ?_
  dsimp only [slotsOf]
  refine Zp 1 [] rfl ?_;refine Zv rfl ?_;refine Zz ?_;refine Zp 3 [] rfl ?_;refine Zv rfl ?_;refine Zn rfl Tryz.underlying109 ?_;refine GT_S rfl (V_isF (V_gtr rfl rfl rfl) (by decide)) ?_;refine GT_nil ?_;refine GE_cond_f rfl ?_;refine GE_skip ?_;refine GE_seq ?_;refine Zq [0] 3 [] rfl rfl ?_;refine Zv rfl ?_;refine Zn rfl Tryz.underlying109 ?_;refine Zv rfl ?_;refine GT_nil ?_;refine GE_block ?_;refine GE_to (GE_loop (ι := Nat) (fun k => 3 - k) (fun k => [(8, .slice A 3 c), (9, I 3), (10, I k)]) (fun k => []) (fun k => k ≤ 3) ?_ 0 ?_) ⟨rfl, rfl, rfl, trivial⟩ HS.nil
  · intro k hk ih
    refine Zp 1 [] rfl ?_;refine GT_S rfl (V_lss rfl rfl rfl) ?_;refine Zz ?_;refine GE_cond rfl (fun q1 => ?_) (fun q1 => ?_)
    · have hk3 : k < 3 := (by omega); have hkl : k < ptE.length := hk3; have hpb := ptE_bd hk3
      refine GE_skip ?_;refine GE_seq ?_;refine GE_block ?_;refine Zp 4 [2, 3] rfl ?_;refine GT_S rfl (V_index rfl rfl rfl Tryz.underlying109 sz_115 (k := k) rfl hk3 (h.isSome hkl)) ?_;refine GT_S rfl (V_loadN (vs := [_, _]) rfl rfl ag_115 sz_115 rfl (show CellsAt _ _ _ (eP2 (ptE.getD k default)) from h.ats noM hkl)) ?_;refine Zb rfl zc_115 fun b4 => ?_;refine ZS [_, _] [_, _] rfl rfl sz_115 rfl rfl rfl ?_;refine GT_nil ?_;refine Zp 3 [1] rfl ?_;refine ZN [_, _] rfl ag_115 sz_115 rfl rfl ?_;refine Zc rfl rn_96 (fun w hw => C_edged (p := ptE.getD k default) hpb.1 hpb.2) GR_nil ?_;refine GT_S rfl (V_notB rfl rfl) ?_;refine GT_nil ?_;refine GE_cond_f rfl ?_;refine GE_skip ?_;refine GE_inBlock ?_;refine Zs [8, 9, 10] rfl ?_;refine ZP 2 [1] rfl ?_;refine Za rfl (by omega) ?_;refine Zw rfl ?_;refine GT_nil ?_
      exact GE_to (ih (k + 1) (by omega) (by omega)) ⟨rfl, rfl, rfl, trivial⟩ HS.nil
    · refine GE_exit rfl ?_;refine Zq [] 1 [] rfl rfl ?_;refine Zv rfl ?_;refine GT_nil ?_;refine GE_ret Tryz.func81 rfl (fun w hw => ⟨?_, hw.nil⟩)
      rfl
  · exact Nat.zero_le _
theorem C_point {s : Int × Int} (h : (-32767 ≤ s.1 ∧ s.1 ≤ 32767) ∧ -32767 ≤ s.2 ∧ s.2 ≤ 32767) : Con0 Tryz.prog 112 [cutV, .agg #[I s.1, I s.2]] w (.agg #[I ((s.2 * 2000).tdiv 1000 - 400), I ((s.1 * 2000).tdiv 1000 + 400)]) := by
  have h1 : (s.2 * 2000).tdiv 1000 = s.2 * 2 := by rw [show s.2 * 2000 = s.2 * 2 * 1000 by omega]; exact Int.mul_tdiv_cancel _ (by decide)
  have h2 : (s.1 * 2000).tdiv 1000 = s.1 * 2 := by rw [show s.1 * 2000 = s.1 * 2 * 1000 by omega]; exact Int.mul_tdiv_cancel _ (by decide)
  refine Ret_of (vs := [_, _]) hm none' Tryz.func112 rfl Tryz.ntmps112 rfl ?_
  dsimp only [slotsOf]
  refine Zp 3 [0, 1, 2] rfl ?_;refine Zx [_, _, _, _, _, _, _] rfl rfl fun b2 => ?_;refine Zx [_, _] rfl rfl fun b3 => ?_;refine Zb rfl zc_115 fun b4 => ?_;refine GT_nil ?_;refine Zp 20 [19] rfl ?_;refine Zg rfl fo_198_1 rfl ag_2 rfl ?_;refine Zg rfl fo_195_1 rfl ag_2 rfl ?_;refine GT_S rfl (V_mul rfl rfl rfl ((wrap_i64 (by omega)))) ?_;refine GT_S rfl (V_quo rfl rfl rfl (by omega) ((wrap_i64 (by rw [h1]; omega)))) ?_;refine Zg rfl fo_195_0 rfl ag_2 rfl ?_;refine GT_S rfl (V_sub rfl rfl rfl ((wrap_i64 (by rw [h1]; omega)))) ?_;refine Zg rfl fo_198_0 rfl ag_2 rfl ?_;refine Zg rfl fo_195_1 rfl ag_2 rfl ?_;refine GT_S rfl (V_mul rfl rfl rfl ((wrap_i64 (by omega)))) ?_;refine GT_S rfl (V_quo rfl rfl rfl (by omega) ((wrap_i64 (by rw [h2]; omega)))) ?_;refine Zg rfl fo_195_0 rfl ag_2 rfl ?_;refine GT_S rfl (V_add rfl rfl rfl ((wrap_i64 (by rw [h2]; omega)))) ?_;refine GT_S rfl (V_build (vs := [_, _]) rfl rfl zc_115 pl_115 sa_115 rfl) ?_;refine ZS [_, _] [_, _] rfl rfl sz_115 rfl rfl rfl ?_;refine GT_nil ?_;refine GE_ret Tryz.func112 ⟨_, rfl, fun w m => run_loadVar_agg (vs := [_, _]) ag_115 sz_115 rfl (fun j v hj => CellsAt.item rfl j v hj w m)⟩ (fun w hw => ⟨?_, hw.nil⟩)
  rfl
theorem C_checkPlace {r per : Int} (h1 : 0 ≤ r ∧ r ≤ 4194304) (h2 : 1 ≤ per ∧ per ≤ 65536) : Con0 Tryz.prog 114 [I r, I per] w (I 0) := by
  refine Ret_of (vs := [_, _]) hm none' Tryz.func114 rfl Tryz.ntmps114 rfl ?_
  dsimp only [slotsOf]
  refine Zp 1 [] rfl ?_;refine Zv rfl ?_;refine Zz ?_;refine Zp 8 [1, 5] rfl ?_;refine Zv rfl ?_;refine Zc rfl rn_122 (fun w hw => C_gbetween h1) GR_nil ?_;refine GT_S rfl (V_notB rfl rfl) ?_;refine Zr 2 rfl ?_;refine Zc rfl rn_122 (fun w hw => C_gbetween h2) GR_nil ?_;refine GT_S rfl (V_notB rfl rfl) ?_;refine Zv rfl ?_;refine GT_nil ?_;refine GE_cond_f rfl ?_;refine GE_skip ?_;refine Zq [] 1 [] rfl rfl ?_;refine Zv rfl ?_;refine GT_nil ?_;refine GE_ret Tryz.func114 rfl (fun w hw => ⟨?_, hw.nil⟩)
  rfl
abbrev trkC (A : Option Addr) (c : Nat) (r per : Int) : List Value := [I 400, I 2000, I 200, I 2000, I 1000, I 1000, I 100, .slice A 3 c, I r, I per]
theorem C_newTrack (h : RdL w 2 eP2 A ptE) : Con Tryz.prog 113 [cutV, .slice A 3 c] w (fun _ : Nat => True) (fun b => .tuple #[ptr b 0, I 0]) (fun b => [(b, blk (trkC A c 0 0) 277)]) := by
  refine Ret_of (vs := [_, _]) hm none' Tryz.func113 rfl Tryz.ntmps113 rfl ?_
  dsimp only [slotsOf]
  refine Zp 3 [0] rfl ?_;refine Zx [_, _, _, _, _, _, _] rfl rfl fun b2 => ?_;refine Zr 2 rfl ?_;refine Zz ?_;refine Zp 3 [1] rfl ?_;refine ZN [_, _, _, _, _, _, _] rfl ag_195 sz_195 rfl rfl ?_;refine Zc rfl rn_110 (fun w hw => C_gCheck) GR_nil ?_;refine Zv rfl ?_;refine GT_nil ?_;refine Zq [1, 2, 6] 2 [] rfl rfl ?_;refine Zv rfl ?_;refine GT_S rfl (V_isF (V_neq rfl rfl rfl) (fun q => q rfl)) ?_;refine GT_nil ?_;refine GE_cond_f rfl ?_;refine GE_skip ?_;refine GE_seq ?_;refine Zp 3 [1] rfl ?_;refine Zv rfl ?_;refine Zc rfl rn_81 (fun w hw => C_gCheckPoints (h.sh hw)) GR_nil ?_;refine Zv rfl ?_;refine GT_nil ?_;refine Zq [1, 2, 7] 2 [] rfl rfl ?_;refine Zv rfl ?_;refine GT_S rfl (V_isF (V_neq rfl rfl rfl) (fun q => q rfl)) ?_;refine GT_nil ?_;refine GE_cond_f rfl ?_;refine GE_skip ?_;refine Zp 6 [3] rfl ?_;refine ZN [_, _, _, _, _, _, _] rfl ag_195 sz_195 rfl rfl ?_;refine Zv rfl ?_;refine GT_S rfl (V_build (vs := [_, _, _, _, _, _, _, _, _, _]) rfl rfl zc_277 pl_277 sa_277 rfl) ?_;refine Zx [_, _, _, _, _, _, _, _, _, _] rfl rfl fun b21 => ?_;refine Zr 2 rfl ?_;refine GT_nil ?_;refine GE_ret Tryz.func113 ⟨_, _, rfl, rfl, rfl⟩ (fun w hw => ?_)
  exact ⟨_, trivial, rfl, hw.hs (C := cx Tryz.prog hm 0 0 _ none' fun _ _ => True) (HS.cons rfl HS.nil)⟩
end
end Go.Proofs.YtncleikbggjmjaaGreatDoor.Side
/- The groove of the example: Cut; widths, steps and bends, walked. -/
namespace Go.Proofs.YtncleikbggjmjaaGreatDoor.Side
open Go.Sx Go.Proofs Go.RowKit
def smS : List Take.Sam := [⟨0, 0⟩, ⟨100, 100⟩, ⟨0, 0⟩]
def ptN : Nat → List (Int × Int)
  | 0 => [(0, 0), (0, 0), (0, 0)]
  | 1 => [(-400, 400), (0, 0), (0, 0)]
  | 2 => [(-400, 400), (-200, 600), (0, 0)]
  | _ => ptE
theorem ptN_len (k : Nat) : (ptN k).length = 3 := by
  unfold ptN; split <;> rfl
def ptX (s : Take.Sam) : Int × Int := ((s.r * 2000).tdiv 1000 - 400, (s.l * 2000).tdiv 1000 + 400)
theorem ptN_set {k : Nat} (hk : k < 3) : (ptN k).set k (ptX (smS.getD k default)) = ptN (k + 1) := by
  rcases (show k = 0 ∨ k = 1 ∨ k = 2 by omega) with rfl | rfl | rfl <;> decide
theorem smS_bd {k : Nat} (hk : k < 3) : (-32767 ≤ (smS.getD k default).l ∧ (smS.getD k default).l ≤ 32767) ∧ -32767 ≤ (smS.getD k default).r ∧ (smS.getD k default).r ≤ 32767 := by
  rcases (show k = 0 ∨ k = 1 ∨ k = 2 by omega) with rfl | rfl | rfl <;> decide
section
variable {w : World} {A : Option Addr} {c g q q0 q2 : Nat} {va vb : Value}
set_option maxRecDepth 20000 in
theorem C_Cut (h : RdL w 2 Take.eSam A smS) : Con Tryz.prog 89 [cutV, .slice A 3 c] w (fun y : Nat × Nat × Items => Own 2 115 eP2 ptE (.slice (some ⟨y.1, 0, none⟩) 3 y.2.1) y.2.2) (fun y => .tuple #[.slice (some ⟨y.1, 0, none⟩) 3 y.2.1, I 0]) (fun y => y.2.2) := by
  refine Ret_of (vs := [_, _]) hm none' Tryz.func89 rfl Tryz.ntmps89 rfl ?_
  dsimp only [slotsOf]
  refine Zp 3 [0] rfl ?_;refine Zx [_, _, _, _, _, _, _] rfl rfl fun b2 => ?_;refine Zr 2 rfl ?_;refine Zz ?_;refine Zp 3 [1] rfl ?_;refine ZN [_, _, _, _, _, _, _] rfl ag_195 sz_195 rfl rfl ?_;refine Zc rfl rn_110 (fun w hw => C_gCheck) GR_nil ?_;refine Zv rfl ?_;refine GT_nil ?_;refine Zq [1, 2, 6] 2 [] rfl rfl ?_;refine Zv rfl ?_;refine GT_S rfl (V_isF (V_neq rfl rfl rfl) (fun q => q rfl)) ?_;refine GT_nil ?_;refine GE_cond_f rfl ?_;refine GE_skip ?_;refine GE_seq ?_;refine Zp 3 [1] rfl ?_;refine Zv rfl ?_;refine Zc rfl rn_111 (fun w hw => Take.C_CheckSamples (s := smS) (h.sh hw)) GR_nil ?_;refine Zv rfl ?_;refine GT_nil ?_;refine Zq [1, 2, 7] 2 [] rfl rfl ?_;refine Zv rfl ?_;refine GT_S rfl (V_isF (V_neq rfl rfl rfl) (fun q => q (by decide))) ?_;refine GT_nil ?_;refine GE_cond_f rfl ?_;refine GE_skip ?_;refine Zp 4 [2] rfl ?_;refine Zv rfl ?_;refine Zn rfl Tryz.underlying199 ?_;refine GT_makeSlice rfl rfl rfl rfl rfl rfl rfl Tryz.underlying109 zc_115 sz_115 by_115 (nn := 3) ⟨rfl, rfl, rfl⟩ (by decide) (fun _ => GR_nil) (fun b23 => ?_);refine Zv rfl ?_;refine Zz ?_;refine Zq [1, 2, 8] 3 [] rfl rfl ?_;refine Zv rfl ?_;refine Zn rfl Tryz.underlying199 ?_;refine Zv rfl ?_;refine GT_nil ?_;refine GE_block ?_;refine GE_to (GE_loop (ι := Nat × Items) (fun z => 3 - z.1) (fun z => [(2, ptr b2 0), (8, .slice (some ⟨b23, 0, none⟩) 3 3), (24, .slice A 3 c), (25, I 3), (26, I z.1)]) (fun z => z.2 ++ [(b2, blk cutC 195)]) (fun z => z.1 ≤ 3 ∧ Own 2 115 eP2 (ptN z.1) (.slice (some ⟨b23, 0, none⟩) 3 3) z.2) ?_ (0, [(b23, blk [I 0, I 0, I 0, I 0, I 0, I 0] 115)]) ?_) ⟨rfl, rfl, rfl, rfl, rfl, trivial⟩ (HS.cons rfl (HS.cons rfl HS.nil))
  · rintro ⟨k, J⟩ ⟨hk, hO⟩ ih; dsimp only at hk hO ih ⊢
    refine Zp 1 [] rfl ?_;refine GT_S rfl (V_lss rfl rfl rfl) ?_;refine Zz ?_;refine GE_cond rfl (fun q1 => ?_) (fun q1 => ?_)
    · have hk3 : k < 3 := (by omega); have hkl : k < smS.length := hk3; have hsb := smS_bd hk3
      refine GE_skip ?_;refine GE_seq ?_;refine GE_block ?_;refine Zp 6 [3, 5] rfl ?_;refine Zv rfl ?_;refine GT_S rfl (V_index rfl rfl rfl Tryz.underlying199 sz_198 (k := k) rfl hk3 (h.isSome hkl)) ?_;refine GT_S rfl (V_loadN (vs := [_, _]) rfl rfl ag_198 sz_198 rfl (show CellsAt _ _ _ (Take.eSam (smS.getD k default)) from h.ats noM hkl)) ?_;refine Zb rfl zc_198 fun b10 => ?_;refine Zv rfl ?_;refine ZS [_, _] [_, _] rfl rfl sz_198 rfl rfl rfl ?_;refine GT_nil ?_;refine Zs [2, 8, 9, 10, 24, 25, 26] rfl ?_;refine ZP 7 [4, 6] rfl ?_;refine Zr 2 rfl ?_;refine ZN [_, _, _, _, _, _, _] rfl ag_195 sz_195 rfl rfl ?_;refine ZN [_, _] rfl ag_198 sz_198 rfl rfl ?_;refine Zc rfl rn_112 (fun w hw => C_point (s := ((smS.getD k default).l, (smS.getD k default).r)) hsb) GR_nil ?_;refine GT_S rfl (V_index rfl rfl rfl Tryz.underlying109 sz_115 (k := k) rfl hk3 rfl) ?_;refine GT_storeOwn (enc := eP2) (q := k) (xx := ptX (smS.getD k default)) rfl rfl rfl rfl rfl rfl rfl sz_115 hO eP2_len eP2_one (by rw [ptN_len]; exact hk3) (by decide) (fun _ _ => GR_nil) (fun I3 hO3 => ?_);refine GT_nil ?_;refine GE_inBlock ?_;refine Zs [2, 8, 24, 25, 26] rfl ?_;refine ZP 2 [1] rfl ?_;refine Za rfl (by omega) ?_;refine Zw rfl ?_;refine GT_nil ?_
      exact GE_to (ih (k + 1, I3) ⟨by dsimp only; omega, by dsimp only; rw [← ptN_set hk3]; exact hO3⟩ (by dsimp only; omega)) ⟨rfl, rfl, rfl, rfl, rfl, trivial⟩ (HS.chunk (HS.cons rfl HS.nil))
    · obtain rfl : k = 3 := (by omega)
      refine GE_exit rfl ?_;refine Zq [8] 3 [] rfl rfl ?_;refine Zr 3 rfl ?_;refine GT_nil ?_;refine GE_ret Tryz.func89 ⟨_, _, rfl, rfl, rfl⟩ (fun w hw => ?_)
      exact ⟨(b23, 3, J), hO, rfl, hw.hs (C := cx Tryz.prog hm 0 0 _ none' fun _ _ => True) HS.last⟩
  · exact ⟨Nat.zero_le _, .inr ⟨b23, 3, [], rfl, rfl, rfl, (by show (ptN 0).length ≤ 3; decide), by unfold maxLen; decide⟩⟩
structure PtAt (w : World) (g q : Nat) (a b : Int) : Prop where
  h0 : w.cell? ⟨g, q, none⟩ = some (I a)
  h1 : w.cell? ⟨g, q + 1, none⟩ = some (I b)
theorem PtAt.sh {w w' : World} {g q : Nat} {a b : Int} {H : Items} (h : PtAt w g q a b) (m : SH w none' H w') : PtAt w' g q a b := by
  exact ⟨m.cellOld h.h0 (fun q => q), m.cellOld h.h1 (fun q => q)⟩
def amt2 (n : Int) : Int := max n (-n)
variable {a b a0 b0 a2 b2 : Int}
theorem C_nwidth (h : PtAt w g q a b) (hb : (-4194304 ≤ a ∧ a ≤ 4194304) ∧ -4194304 ≤ b ∧ b ≤ 4194304) : Con0 Tryz.prog 162 [.agg #[vb, ptr g q, va]] w (I (b - a)) := by
  refine Ret_of (vs := [_]) hm none' Tryz.func162 rfl Tryz.ntmps162 rfl ?_
  dsimp only [slotsOf]
  refine Zp 2 [0] rfl ?_;refine Zx [_, _, _] rfl rfl fun b1 => ?_;refine Zv rfl ?_;refine Zz ?_;refine GE_drawn (.st 0 (.st 1 (.st 2 (.st 3 (.st 4 (.st 5 (.st 6 (.st 7 (.st 8 (.st 9 (.st 10 (.st 11 .nil)))))))))))) [] (by decide +kernel) ?_;refine Zg rfl fo_284_1 rfl ag_282 rfl ?_;refine Zv rfl ?_;refine Zf rfl fo_115_1 ?_;refine ZL rfl ag_2 (CellAt.old h.h1 (noM _)) ?_;refine Zg rfl fo_284_1 rfl ag_282 rfl ?_;refine Zv rfl ?_;refine Zf rfl fo_115_0 ?_;refine ZL rfl ag_2 (CellAt.old h.h0 (noM _)) ?_;refine Za rfl (by omega) ?_;refine Zv rfl ?_;refine GT_nil ?_;refine GE_ret Tryz.func162 rfl (fun w hw => ⟨?_, hw.nil⟩)
  rfl
theorem C_gamount {n : Int} (h : -100000000 ≤ n ∧ n ≤ 100000000) : Con0 Tryz.prog 172 [I n] w (I (amt2 n)) := by
  refine Ret_of (vs := [_]) hm none' Tryz.func172 rfl Tryz.ntmps172 rfl ?_
  dsimp only [slotsOf]
  refine Zp 1 [] rfl ?_;refine Zv rfl ?_;refine GT_nil ?_;refine Zp 5 [] rfl ?_;refine Zr 2 rfl ?_;refine GT_S rfl (V_neg rfl rfl ((wrap_i64 (by omega)).trans (show _ = -n by omega))) ?_;refine GT_S rfl (V_max rfl rfl rfl) ?_;refine Zv rfl ?_;refine GT_nil ?_;refine GE_ret Tryz.func172 rfl (fun w hw => ⟨?_, hw.nil⟩)
  rfl
theorem C_gmost {x y : Int} (h : RdL w 1 eN A [x, y]) : Con0 Tryz.prog 171 [.slice A 2 2] w (I (max x y)) := by
  have z0 : 0 < ([x, y] : List Int).length := (show 0 < 2 by decide)
  have z1 : 1 < ([x, y] : List Int).length := (show 1 < 2 by decide)
  refine Ret_of (vs := [_]) hm none' Tryz.func171 rfl Tryz.ntmps171 rfl ?_
  dsimp only [slotsOf]
  refine Zp 1 [] rfl ?_;refine Zv rfl ?_;refine GT_nil ?_;refine Zp 4 [] rfl ?_;refine Zv rfl ?_;refine GT_S rfl (V_index (k := 0) rfl rfl rfl Tryz.underlying43 sz_2 rfl (by decide) (h.isSome (k := 0) z0)) ?_;refine ZL rfl ag_2 (show CellAt _ _ _ (I x) from h.at0 (k := 0) noM z0 rfl) ?_;refine Zv rfl ?_;refine Zz ?_;refine Zq [0, 3] 4 [] rfl rfl ?_;refine Zv rfl ?_;refine GT_S rfl (V_sliceFrom rfl rfl rfl Tryz.underlying43 sz_2 (show 1 ≤ 2 by decide)) ?_;refine Zn rfl Tryz.underlying43 ?_;refine Zv rfl ?_;refine GT_nil ?_;refine GE_block ?_;refine GE_to (GE_loop (ι := Nat) (fun k => 1 - k) (fun k => [(3, I (if k = 0 then x else max x y)), (10, .slice (slA 2 1 1 A) 1 1), (11, I 1), (12, I k)]) (fun k => []) (fun k => k ≤ 1) ?_ 0 ?_) ⟨rfl, rfl, rfl, rfl, trivial⟩ HS.nil
  · intro k hk ih
    refine Zp 1 [] rfl ?_;refine GT_S rfl (V_lss rfl rfl rfl) ?_;refine Zz ?_;refine GE_cond rfl (fun q1 => ?_) (fun q1 => ?_)
    · obtain rfl : k = 0 := (by omega)
      refine GE_skip ?_;refine GE_seq ?_;refine GE_block ?_;refine Zp 3 [] rfl ?_;refine GT_S rfl (V_index rfl rfl rfl Tryz.underlying43 sz_2 (k := 0) rfl (by decide) ((h.drop 1 (c := 2) (Nat.le_refl _)).isSome (k := 0) (by show 0 < 1; decide))) ?_;refine ZL rfl ag_2 (show CellAt _ _ _ (I y) from (h.drop 1 (c := 2) (Nat.le_refl _)).at0 (k := 0) noM (by show 0 < 1; decide) rfl) ?_;refine Zv rfl ?_;refine GT_nil ?_;refine ZP 4 [3] rfl ?_;refine Zr 2 rfl ?_;refine GT_S rfl (V_max rfl rfl rfl) ?_;refine Zw rfl ?_;refine GT_nil ?_;refine GE_inBlock ?_;refine Zs [3, 10, 11, 12] rfl ?_;refine ZP 2 [1] rfl ?_;refine Za rfl (by omega) ?_;refine Zw rfl ?_;refine GT_nil ?_
      exact GE_to (ih 1 (Nat.le_refl _) (show 1 - 1 < 1 - 0 by decide)) ⟨rfl, rfl, rfl, rfl, trivial⟩ HS.nil
    · obtain rfl : k = 1 := (by omega)
      refine GE_exit rfl ?_;refine Zq [3] 2 [] rfl rfl ?_;refine Zr 2 rfl ?_;refine GT_nil ?_;refine GE_ret Tryz.func171 rfl (fun w hw => ⟨?_, hw.nil⟩)
      rfl
  · exact Nat.zero_le _
end
end Go.Proofs.YtncleikbggjmjaaGreatDoor.Side
