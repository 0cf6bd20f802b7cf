/- Texts of this proof, one behind the other: Uc5, Uc1, Uc6, Uc7, Ub1, Ub2, Ua6, Ue1, Uf8. -/
import Derived.Test.YtpbflnfcgcldkaaGreatDoorMt17
import Derived.Test.YtpbflnfcgcldkaaGreatDoorMt16
import Derived.Test.YtpbflnfcgcldkaaGreatDoorMt15
import Derived.Test.YtpbflnfcgcldkaaGreatDoorMt13
/- What a tip reads of a groove: both edges, walked. -/
namespace Go.Proofs.YtpbflnfcgcldkaaGreatDoor.Ply
open Go.Sx Go.Proofs Go.RowKit
open Side (eN eN_len eN_one getD_memT sh_trans eP2 eP2_len eP2_one)
def bq (bk : Int → Int) (l : List Int) (k : Nat) : List Int := (l.take k).map bk ++ l.drop k
theorem bq_len {bk : Int → Int} {l : List Int} {k : Nat} : (bq bk l k).length = l.length := by simp [bq]; omega
theorem bq_get {bk : Int → Int} {l : List Int} {k : Nat} (hk : k < l.length) : (bq bk l k).getD k default = l.getD k default := by
  unfold bq
  have h : ((l.take k).map bk).length = k := by rw [List.length_map, List.length_take]; omega
  rw [List.getD_eq_getElem?_getD, List.getD_eq_getElem?_getD, List.getElem?_append_right (by omega), h, List.getElem?_drop, Nat.sub_self, Nat.add_zero]
theorem bq_set {bk : Int → Int} {l : List Int} {k : Nat} (hk : k < l.length) : (bq bk l k).set k (bk (l.getD k default)) = bq bk l (k + 1) := by
  unfold bq
  have h : ((l.take k).map bk).length = k := by rw [List.length_map, List.length_take]; omega
  rw [List.drop_eq_getElem_cons hk, List.set_append, if_neg (by omega), h, Nat.sub_self, List.set_cons_zero, List.take_succ_eq_append_getElem hk, List.map_append, List.append_assoc]
  simp [List.getD, hk]
theorem bq_all {bk : Int → Int} {l : List Int} : bq bk l l.length = l.map bk := by simp [bq]
theorem map_succ {α β : Type} [Inhabited α] {l : List α} {f : α → β} {k : Nat} (hk : k < l.length) : (l.take (k + 1)).map f = (l.take k).map f ++ [f (l.getD k default)] := by
  rw [List.take_succ_eq_append_getElem hk, List.map_append]; simp [List.getD, hk]
section
variable {w w0 : World} {A A2 : Option Addr} {c c2 g2 g3 gt : Nat} {hs sh : List Int} {P : List (Int × Int)}
theorem C_read1 (hg : BlkAt w gt [.slice A2 sh.length c2] 259) (hr : RdL w 1 eN A hs) (hr2 : RdL w 1 eN A2 sh) (hok : WOk hs sh) : Con Tryz.prog 231 [.slice A hs.length c, ptr gt 0] w (fun y : Option Addr × Nat × Items => Own 1 2 eN (wal hs sh) (.slice y.1 hs.length y.2.1) y.2.2) (fun y => .slice y.1 hs.length y.2.1) (fun y => y.2.2) := by
  refine Ret_of (vs := [_, _]) hm none' Tryz.func231 rfl Tryz.ntmps231 rfl ?_
  dsimp only [slotsOf]
  refine GE_seq ?_
  refine GE_plain (.st 0 .nil) rfl ?_
  refine GT_st rfl rfl rfl rfl (V_assign rfl rfl) ?_
  refine GT_nil ?_
  refine GE_seq ?_
  refine GE_plain (.st 0 (.st 1 (.ld 2 [] (.st 3 .nil)))) rfl ?_
  refine GT_st rfl rfl rfl rfl (V_loadN (vs := [_]) rfl rfl ag_259 sz_259 rfl (show CellsAt _ _ _ [.slice A2 sh.length c2] from CellsAt.blk hg (noM _))) ?_
  refine GT_st rfl rfl rfl rfl (V_move rfl rfl) ?_
  refine GT_call rfl rfl rfl rfl rfl rfl rfl rfl rn_232 (fun w hw => C_walk (hr.sh hw) (hr2.sh hw) hok) (fun _ _ => GR_nil) (fun y hy => ?_)
  refine GT_st rfl rfl rfl rfl (V_assign rfl rfl) ?_
  refine GT_nil ?_
  refine GE_ret Tryz.func231 rfl (fun w hw => ?_)
  exact ⟨y, hy, rfl, hw.hs (C := cx Tryz.prog hm 0 0 _ none' fun _ _ => True) HS.last⟩
variable {tE fo fb : Nat} {of : Int × Int → Int} {bk : Int → Int}
set_option maxRecDepth 10000 in
theorem C_walls1 (hmo : methOf Tryz.prog tE "deadwax/play.of" = some (fo, false)) (hmb : methOf Tryz.prog tE "deadwax/play.back" = some (fb, false)) (hag : aggOf Tryz.prog tE = some true) (hro : runs Tryz.prog fo = true) (hrb : runs Tryz.prog fb = true)
    (hof : ∀ w, ∀ p ∈ P, Con0 Tryz.prog fo [.agg #[], .agg #[I p.1, I p.2]] w (I (of p))) (hbk : ∀ w (x : Int), -4194304 ≤ x ∧ x ≤ 4194304 → Con0 Tryz.prog fb [.agg #[], I x] w (I (bk x)))
    (h2 : BlkAt w g2 [.slice A P.length c] 255) (h3 : BlkAt w g3 [.func (.func 231) #[] #[ptr gt 0]] 169) (hg : BlkAt w gt [.slice A2 sh.length c2] 259)
    (hr : RdL w 2 eP2 A P) (hr2 : RdL w 1 eN A2 sh) (hok : WOk (P.map of) sh) :
    Con Tryz.prog 265 [.iface tE (.agg #[]), ptr g2 0, ptr g3 0] w (fun y : Option Addr × Nat × Items => Own 1 2 eN ((wal (P.map of) sh).map bk) (.slice y.1 P.length y.2.1) y.2.2) (fun y => .slice y.1 P.length y.2.1) (fun y => y.2.2) := by
  have hl1 := hok.hl
  rw [List.length_map] at hl1
  have hwl : (wal (P.map of) sh).length = P.length := by rw [wal_len, List.length_map]
  have hml : (P.map of).length = P.length := List.length_map ..
  refine Ret_of (vs := [_, _, _]) hm none' Tryz.func265 rfl Tryz.ntmps265 rfl ?_
  dsimp only [slotsOf]
  refine GE_seq ?_
  refine GE_plain (.st 0 .nil) rfl ?_
  refine GT_st rfl rfl rfl rfl (V_assign rfl rfl) ?_
  refine GT_nil ?_
  refine GE_seq ?_
  refine GE_drawn (.st 0 (.st 1 (.st 2 (.st 3 (.st 4 (.st 5 (.st 6 (.st 7 .nil)))))))) [] (by decide +kernel) ?_
  refine GT_st rfl rfl rfl rfl (V_move rfl rfl) ?_
  first | refine GT_st rfl rfl rfl rfl (V_nilCheck rfl rfl) ?_ | refine GT_st rfl rfl rfl rfl (V_nilCheck_func rfl rfl) ?_ | refine GT_st rfl rfl rfl rfl (V_nilCheck_yield rfl rfl) ?_ | refine GT_st rfl rfl rfl rfl (V_nilCheck_iface rfl rfl) ?_
  refine GT_st rfl rfl rfl rfl (V_makeFunc rfl rfl rfl) ?_
  refine GT_st rfl rfl rfl rfl (V_move rfl rfl) ?_
  first | refine GT_st rfl rfl rfl rfl (V_nilCheck rfl rfl) ?_ | refine GT_st rfl rfl rfl rfl (V_nilCheck_func rfl rfl) ?_ | refine GT_st rfl rfl rfl rfl (V_nilCheck_yield rfl rfl) ?_ | refine GT_st rfl rfl rfl rfl (V_nilCheck_iface rfl rfl) ?_
  refine GT_st rfl rfl rfl rfl (V_makeFunc rfl rfl rfl) ?_
  refine GT_st rfl rfl rfl rfl (V_assign rfl rfl) ?_
  refine GT_st rfl rfl rfl rfl (V_assign rfl rfl) ?_
  refine GT_nil ?_
  refine GE_seq ?_
  refine GE_slots (L' := [(1, _), (2, _), (5, _), (6, _)]) ⟨rfl, rfl, rfl, rfl, trivial⟩ ?_
  refine GE_plain (.st 0 .nil) rfl ?_
  refine GT_st rfl rfl rfl rfl (V_assign rfl rfl) ?_
  refine GT_nil ?_
  refine GE_seq ?_
  refine GE_seq ?_
  refine GE_plain (.st 0 (.st 1 (.st 2 .nil))) rfl ?_
  refine GT_st rfl rfl rfl rfl (V_load rfl rfl ag_255 (CellAt.old (h2.cell rfl) (noM _))) ?_
  refine GT_st rfl rfl rfl rfl (V_len rfl Tryz.underlying255 rfl) ?_
  refine GT_st rfl rfl rfl rfl (V_move rfl rfl) ?_
  refine GT_nil ?_
  refine GE_block ?_
  refine GE_to (GE_loop (ι := Nat × (Option Addr × Nat × Items)) (fun z => P.length - z.1) (fun z => [(2, ptr g3 0), (5, .func (.method "deadwax/play.of") #[.iface tE (.agg #[])] #[]), (6, .func (.method "deadwax/play.back") #[.iface tE (.agg #[])] #[]), (7, .slice z.2.1 ((P.take z.1).map of).length z.2.2.1), (17, .slice A P.length c), (18, I P.length), (19, I z.1)]) (fun z => z.2.2.2) (fun z => z.1 ≤ P.length ∧ Own 1 2 eN ((P.take z.1).map of) (.slice z.2.1 ((P.take z.1).map of).length z.2.2.1) z.2.2.2) ?_ (0, (none, 0, [])) ?_) ⟨rfl, rfl, rfl, rfl, rfl, rfl, rfl, trivial⟩ HS.nil
  · rintro ⟨k, y⟩ ⟨hk, hO⟩ ih; dsimp only at hk hO ih ⊢
    refine GE_seq ?_
    refine GE_plain (.st 0 .nil) rfl ?_
    refine GT_st rfl rfl rfl rfl (V_lss rfl rfl rfl) ?_
    refine GT_nil ?_
    refine GE_seq ?_
    first | refine GE_condNot rfl (fun q1 => ?_) (fun q1 => ?_) | refine GE_cond rfl (fun q1 => ?_) (fun q1 => ?_) | refine GE_condNotB rfl (fun q1 => ?_) (fun q1 => ?_) | refine GE_condB rfl (fun q1 => ?_) (fun q1 => ?_)
    · have hkl : k < P.length := (by omega); have htl : ((P.take k).map of).length = k := (by rw [List.length_map, List.length_take]; omega)
      refine GE_skip ?_
      refine GE_seq ?_
      refine GE_block ?_
      refine GE_seq ?_
      refine GE_plain (.st 0 (.st 1 (.ld 2 [] (.ld 3 [] .nil)))) rfl ?_
      refine GT_st rfl rfl rfl rfl (V_index rfl rfl rfl Tryz.underlying255 sz_261 (k := k) rfl hkl (hr.isSome hkl)) ?_
      refine GT_st rfl rfl rfl rfl (V_loadN (vs := [_, _]) rfl rfl ag_261 sz_261 rfl (show CellsAt _ _ _ (eP2 (P.getD k default)) from hr.ats noM hkl)) ?_
      refine GT_alloc rfl rfl rfl rfl rfl zc_261 (fun _ => GR_nil) (fun b9 => ?_)
      refine GT_store (vs := [_, _]) (l' := [_, _]) rfl rfl rfl rfl rfl rfl rfl sz_261 rfl rfl (Nat.le_of_ble_eq_true rfl) rfl (GR_nil) ?_
      refine GT_nil ?_
      refine GE_plain (.st 0 (.st 1 (.st 2 (.ld 3 [] (.ld 4 [] (.ld 5 [] (.ld 6 [] .nil))))))) rfl ?_
      refine GT_st rfl rfl rfl rfl (V_move rfl rfl) ?_
      refine GT_st rfl rfl rfl rfl (V_move rfl rfl) ?_
      refine GT_st rfl rfl rfl rfl (V_loadN (vs := [_, _]) rfl rfl ag_261 sz_261 rfl (CellsAt.item rfl)) ?_
      refine GT_callM (t := tE) (fi := fo) rfl rfl rfl rfl rfl rfl rfl rfl hmo hag hro (fun w hw => hof w _ (getD_memT hkl)) (GR_nil) ?_
      refine GT_buildSlice (z := [_]) rfl rfl rfl rfl rfl Tryz.underlying43 zc_2 sz_2 (by decide) rfl rfl (fun _ => GR_nil) (fun b27 => ?_)
      refine GT_append (enc := eN) (l := (P.take k).map of) (m := [of (P.getD k default)]) rfl rfl rfl rfl rfl rfl rfl hO (fun w m => RdL.own' m eN_len) Tryz.underlying43 zc_2 sz_2 ⟨rfl, by decide⟩ by_2 ⟨by rw [htl]; simp only [List.length_singleton]; omega, by rw [htl]; simp only [List.length_singleton]; omega⟩ eN_len eN_one (fun _ _ _ _ => GR_nil) (fun A3 c3 I3 hO3 => ?_)
      refine GT_ldv rfl rfl rfl rfl rfl (V_assign rfl rfl) (GR_nil) ?_
      refine GT_nil ?_
      refine GE_inBlock ?_
      refine GE_slots (L' := [(2, _), (5, _), (6, _), (7, _), (17, _), (18, _), (19, _)]) ⟨rfl, rfl, rfl, rfl, rfl, rfl, rfl, trivial⟩ ?_
      refine GE_plain (.st 0 (.ld 1 [] .nil)) rfl ?_
      refine GT_st rfl rfl rfl rfl (V_add rfl rfl rfl (wrap_i64 (by omega))) ?_
      refine GT_ldv rfl rfl rfl rfl rfl (V_move rfl rfl) (GR_nil) ?_
      refine GT_nil ?_
      exact GE_to (ih (k + 1, (A3, c3, I3)) ⟨by dsimp only; omega, by dsimp only; rw [map_succ hkl]; exact hO3⟩ (by dsimp only; omega)) ⟨rfl, rfl, rfl, by dsimp only; rw [map_succ hkl]; rfl, rfl, rfl, rfl, trivial⟩ HS.last
    · obtain rfl : k = P.length := (by omega); rw [List.take_length] at hO ⊢
      refine GE_exit rfl ?_
      refine GE_seq ?_
      refine GE_slots (L' := [(2, _), (6, _), (7, _)]) ⟨rfl, rfl, rfl, trivial⟩ ?_
      refine GE_plain (.st 0 (.st 1 (.ld 2 [] (.ld 3 [] .nil)))) rfl ?_
      refine GT_st rfl rfl rfl rfl (V_load rfl rfl ag_169 (CellAt.old (h3.cell rfl) (noM _))) ?_
      refine GT_st rfl rfl rfl rfl (V_move rfl rfl) ?_
      refine GT_call rfl rfl rfl rfl rfl rfl rfl rfl rn_231 (fun w hw => C_read1 (hg.sh hw) (hO.rdH eN_len hw) (hr2.sh hw) hok) (fun _ _ => GR_nil) (fun v hv => ?_)
      refine GT_ldv rfl rfl rfl rfl rfl (V_assign rfl rfl) (GR_nil) ?_
      refine GT_nil ?_
      refine GE_seq ?_
      refine GE_seq ?_
      refine GE_slots (L' := [(6, _), (7, _)]) ⟨rfl, rfl, trivial⟩ ?_
      refine GE_plain (.st 0 (.st 1 (.st 2 .nil))) rfl ?_
      refine GT_st rfl rfl rfl rfl (V_move rfl rfl) ?_
      refine GT_st rfl rfl rfl rfl (V_len rfl Tryz.underlying43 rfl) ?_
      refine GT_st rfl rfl rfl rfl (V_move rfl rfl) ?_
      refine GT_nil ?_
      refine GE_block ?_
      refine GE_to (GE_loop (ι := Nat × Items) (fun z => P.length - z.1) (fun z => [(6, .func (.method "deadwax/play.back") #[.iface tE (.agg #[])] #[]), (7, .slice v.1 (P.map of).length v.2.1), (34, I (P.map of).length), (35, I z.1)]) (fun z => z.2) (fun z => z.1 ≤ P.length ∧ Own 1 2 eN (bq bk (wal (P.map of) sh) z.1) (.slice v.1 (P.map of).length v.2.1) z.2) ?_ (0, v.2.2) ?_) ⟨rfl, rfl, rfl, rfl, trivial⟩ HS.last
      · rintro ⟨k, J1⟩ ⟨hk, hO2⟩ ih; dsimp only at hk hO2 ih ⊢
        refine GE_seq ?_
        refine GE_plain (.st 0 .nil) rfl ?_
        refine GT_st rfl rfl rfl rfl (V_lss rfl rfl rfl) ?_
        refine GT_nil ?_
        refine GE_seq ?_
        first | refine GE_condNot rfl (fun q2 => ?_) (fun q2 => ?_) | refine GE_cond rfl (fun q2 => ?_) (fun q2 => ?_) | refine GE_condNotB rfl (fun q2 => ?_) (fun q2 => ?_) | refine GE_condB rfl (fun q2 => ?_) (fun q2 => ?_)
        · have hkl : k < P.length := (by omega); have hwb := wal_bd hok _ (getD_memT (l := wal (P.map of) sh) (i := k) (by omega))
          refine GE_skip ?_
          refine GE_seq ?_
          refine GE_block ?_
          refine GE_seq ?_
          refine GE_plain (.st 0 (.st 1 .nil)) rfl ?_
          refine GT_st rfl rfl rfl rfl (V_move rfl rfl) ?_
          refine GT_st rfl rfl rfl rfl (V_assign rfl rfl) ?_
          refine GT_nil ?_
          refine GE_plain (.st 0 (.st 1 (.st 2 (.st 3 (.st 4 (.st 5 (.st 6 (.ld 7 [] (.st 8 (.ld 9 [] .nil)))))))))) rfl ?_
          refine GT_st rfl rfl rfl rfl (V_move rfl rfl) ?_
          refine GT_st rfl rfl rfl rfl (V_move rfl rfl) ?_
          refine GT_st rfl rfl rfl rfl (V_move rfl rfl) ?_
          refine GT_st rfl rfl rfl rfl (V_move rfl rfl) ?_
          refine GT_st rfl rfl rfl rfl (V_move rfl rfl) ?_
          refine GT_st rfl rfl rfl rfl (V_index rfl rfl rfl Tryz.underlying43 sz_2 (k := k) rfl (by omega) (hO2.isSome (k := k) (by rw [bq_len]; omega))) ?_
          refine GT_st rfl rfl rfl rfl (V_load rfl rfl ag_2 (CellAt.own0 (k := k) hO2 eN_len (by rw [bq_len]; omega) (by rw [bq_get (by omega)]; rfl))) ?_
          refine GT_callM (t := tE) (fi := fb) rfl rfl rfl rfl rfl rfl rfl rfl hmb hag hrb (fun w hw => hbk w _ hwb) (GR_nil) ?_
          refine GT_st rfl rfl rfl rfl (V_index rfl rfl rfl Tryz.underlying43 sz_2 (k := k) rfl (by omega) (hO2.isSome (k := k) (by rw [bq_len]; omega))) ?_
          refine GT_storeOwn (enc := eN) (q := k) (xx := bk ((wal (P.map of) sh).getD k default)) rfl rfl rfl rfl rfl rfl rfl sz_2 hO2 eN_len eN_one (by rw [bq_len]; omega) (by decide) (fun _ _ => GR_nil) (fun I4 hO4 => ?_)
          refine GT_nil ?_
          refine GE_inBlock ?_
          refine GE_slots (L' := [(6, _), (7, _), (34, _), (35, _)]) ⟨rfl, rfl, rfl, rfl, trivial⟩ ?_
          refine GE_plain (.st 0 (.ld 1 [] .nil)) rfl ?_
          refine GT_st rfl rfl rfl rfl (V_add rfl rfl rfl (wrap_i64 (by omega))) ?_
          refine GT_ldv rfl rfl rfl rfl rfl (V_move rfl rfl) (GR_nil) ?_
          refine GT_nil ?_
          exact GE_to (ih (k + 1, I4) ⟨by dsimp only; omega, by dsimp only; rw [← bq_set (by omega)]; exact hO4⟩ (by dsimp only; omega)) ⟨rfl, rfl, rfl, rfl, trivial⟩ HS.last
        · obtain rfl : k = P.length := (by omega); rw [← hwl, bq_all, hml] at hO2; rw [hml]
          refine GE_exit rfl ?_
          refine GE_seq ?_
          refine GE_slots (L' := [(7, _)]) ⟨rfl, trivial⟩ ?_
          refine GE_plain (.st 0 (.st 1 .nil)) rfl ?_
          refine GT_st rfl rfl rfl rfl (V_move rfl rfl) ?_
          refine GT_st rfl rfl rfl rfl (V_assign rfl rfl) ?_
          refine GT_nil ?_
          refine GE_ret Tryz.func265 rfl (fun w hw => ?_)
          exact ⟨(v.1, v.2.1, J1), hO2, rfl, hw.hs (C := cx Tryz.prog hm 0 0 _ none' fun _ _ => True) HS.last⟩
      · exact ⟨Nat.zero_le _, hv⟩
  · exact ⟨Nat.zero_le _, Own.nil⟩
end
end Go.Proofs.YtpbflnfcgcldkaaGreatDoor.Ply
/- The arm of the example's groove, walked. -/
namespace Go.Proofs.YtpbflnfcgcldkaaGreatDoor.Ply
open Go.Sx Go.Proofs Go.RowKit
open Side (eN eN_len eN_one getD_memT sh_trans eP2 eP2_len eP2_one)
def p6 : List (Int × Int) := [(-100, 100), (-100, 90), (-95, 100)]
theorem p6_bd {k : Nat} (hk : k < 3) : (-4194304 ≤ (p6.getD k default).1 ∧ (p6.getD k default).1 ≤ 4194304) ∧ (-4194304 ≤ (p6.getD k default).2 ∧ (p6.getD k default).2 ≤ 4194304) := by
  rcases (show k = 0 ∨ k = 1 ∨ k = 2 by omega) with rfl | rfl | rfl <;> decide
section
variable {w : World} {A : Option Addr} {c : Nat} {l : List Int}
theorem C_CheckPts (h : RdL w 2 eP2 A p6) : Con0 Tryz.prog 191 [.slice A 3 c] w (I 0) := by
  refine Ret_of (vs := [_]) hm none' Tryz.func191 rfl Tryz.ntmps191 rfl ?_
  dsimp only [slotsOf]
  refine GE_seq ?_
  refine GE_plain (.st 0 .nil) rfl ?_
  refine GT_st rfl rfl rfl rfl (V_assign rfl rfl) ?_
  refine GT_nil ?_
  refine GE_seq ?_
  refine GE_seq ?_
  refine GE_plain (.st 0 (.st 1 (.st 2 .nil))) rfl ?_
  refine GT_st rfl rfl rfl rfl (V_move rfl rfl) ?_
  refine GT_st rfl rfl rfl rfl (V_len rfl Tryz.underlying255 rfl) ?_
  refine GT_st rfl rfl rfl rfl (V_isF (V_gtr rfl rfl rfl) (by decide)) ?_
  refine GT_nil ?_
  refine GE_cond_f rfl ?_
  refine GE_skip ?_
  refine GE_seq ?_
  refine GE_seq ?_
  refine GE_slots (L' := [(0, _)]) ⟨rfl, trivial⟩ ?_
  refine GE_plain (.st 0 (.st 1 (.st 2 .nil))) rfl ?_
  refine GT_st rfl rfl rfl rfl (V_move rfl rfl) ?_
  refine GT_st rfl rfl rfl rfl (V_len rfl Tryz.underlying255 rfl) ?_
  refine GT_st rfl rfl rfl rfl (V_move rfl rfl) ?_
  refine GT_nil ?_
  refine GE_block ?_
  refine GE_to (GE_loop (ι := Nat) (fun k => 3 - k) (fun k => [(8, .slice A 3 c), (9, I 3), (10, I k)]) (fun k => []) (fun k => k ≤ 3) ?_ 0 ?_) ⟨rfl, rfl, rfl, trivial⟩ HS.nil
  · intro k hk ih
    refine GE_seq ?_
    refine GE_plain (.st 0 .nil) rfl ?_
    refine GT_st rfl rfl rfl rfl (V_lss rfl rfl rfl) ?_
    refine GT_nil ?_
    refine GE_seq ?_
    first | refine GE_condNot rfl (fun q1 => ?_) (fun q1 => ?_) | refine GE_cond rfl (fun q1 => ?_) (fun q1 => ?_) | refine GE_condNotB rfl (fun q1 => ?_) (fun q1 => ?_) | refine GE_condB rfl (fun q1 => ?_) (fun q1 => ?_)
    · have hk3 : k < 3 := (by omega); have hkl : k < p6.length := hk3; have hbd := p6_bd hk3
      refine GE_skip ?_
      refine GE_seq ?_
      refine GE_block ?_
      refine GE_seq ?_
      refine GE_plain (.st 0 (.st 1 (.ld 2 [] (.ld 3 [] .nil)))) rfl ?_
      refine GT_st rfl rfl rfl rfl (V_index rfl rfl rfl Tryz.underlying255 sz_261 (k := k) rfl hk3 (h.isSome hkl)) ?_
      refine GT_st rfl rfl rfl rfl (V_loadN (vs := [_, _]) rfl rfl ag_261 sz_261 rfl (show CellsAt _ _ _ (eP2 (p6.getD k default)) from h.ats noM hkl)) ?_
      refine GT_alloc rfl rfl rfl rfl rfl zc_261 (fun _ => GR_nil) (fun b4 => ?_)
      refine GT_store (vs := [_, _]) (l' := [_, _]) rfl rfl rfl rfl rfl rfl rfl sz_261 rfl rfl (Nat.le_of_ble_eq_true rfl) rfl (GR_nil) ?_
      refine GT_nil ?_
      refine GE_seq ?_
      refine GE_plain (.st 0 (.ld 1 [] (.st 2 .nil))) rfl ?_
      refine GT_st rfl rfl rfl rfl (V_loadN (vs := [_, _]) rfl rfl ag_261 sz_261 rfl (CellsAt.item rfl)) ?_
      refine GT_call0 rfl rfl rfl rfl rfl rfl rfl rfl rn_244 (fun w hw => Side.C_edged (p := p6.getD k default) hbd.1 hbd.2) (GR_nil) ?_
      first | refine GT_st rfl rfl rfl rfl (V_not rfl rfl) ?_ | refine GT_st rfl rfl rfl rfl (V_notB rfl rfl) ?_
      refine GT_nil ?_
      refine GE_cond_f rfl ?_
      refine GE_skip ?_
      refine GE_inBlock ?_
      refine GE_slots (L' := [(8, _), (9, _), (10, _)]) ⟨rfl, rfl, rfl, trivial⟩ ?_
      refine GE_plain (.st 0 (.ld 1 [] .nil)) rfl ?_
      refine GT_st rfl rfl rfl rfl (V_add rfl rfl rfl (wrap_i64 (by omega))) ?_
      refine GT_ldv rfl rfl rfl rfl rfl (V_move rfl rfl) (GR_nil) ?_
      refine GT_nil ?_
      exact GE_to (ih (k + 1) (by omega) (by omega)) ⟨rfl, rfl, rfl, trivial⟩ HS.nil
    · skip
      refine GE_exit rfl ?_
      refine GE_seq ?_
      refine GE_slots (L' := []) trivial ?_
      refine GE_plain (.st 0 .nil) rfl ?_
      refine GT_st rfl rfl rfl rfl (V_assign rfl rfl) ?_
      refine GT_nil ?_
      refine GE_ret Tryz.func191 rfl (fun w hw => ⟨?_, hw.nil⟩)
      rfl
  · exact Nat.zero_le _
theorem C_Min (hr : RdL w 1 eN A l) (hl : 1 ≤ l.length ∧ l.length ≤ 1000000) : Con Tryz.prog 193 [.slice A l.length c] w (fun x : Int => x ∈ l ∧ ∀ y ∈ l, x ≤ y) (fun x => I x) (fun _ => []) := by
  have hl0 : 0 < l.length := hl.1
  refine Ret_of (vs := [_]) hm none' Tryz.func193 rfl Tryz.ntmps193 rfl ?_
  dsimp only [slotsOf]
  refine GE_seq ?_
  refine GE_plain (.st 0 .nil) rfl ?_
  refine GT_st rfl rfl rfl rfl (V_assign rfl rfl) ?_
  refine GT_nil ?_
  refine GE_seq ?_
  refine GE_seq ?_
  refine GE_plain (.st 0 (.st 1 (.st 2 .nil))) rfl ?_
  refine GT_st rfl rfl rfl rfl (V_move rfl rfl) ?_
  refine GT_st rfl rfl rfl rfl (V_len rfl Tryz.underlying43 rfl) ?_
  refine GT_st rfl rfl rfl rfl (V_isF (V_lss rfl rfl rfl) (by omega)) ?_
  refine GT_nil ?_
  refine GE_cond_f rfl ?_
  refine GE_skip ?_
  refine GE_seq ?_
  refine GE_slots (L' := [(0, _)]) ⟨rfl, trivial⟩ ?_
  refine GE_plain (.st 0 (.st 1 (.st 2 (.st 3 .nil)))) rfl ?_
  refine GT_st rfl rfl rfl rfl (V_move rfl rfl) ?_
  refine GT_st rfl rfl rfl rfl (V_index (k := 0) rfl rfl rfl Tryz.underlying43 sz_2 rfl hl0 (hr.isSome hl0)) ?_
  refine GT_st rfl rfl rfl rfl (V_load rfl rfl ag_2 (hr.at0 noM hl0 rfl)) ?_
  refine GT_st rfl rfl rfl rfl (V_assign rfl rfl) ?_
  refine GT_nil ?_
  refine GE_seq ?_
  refine GE_seq ?_
  refine GE_plain (.st 0 .nil) rfl ?_
  refine GT_st rfl rfl rfl rfl (V_assign rfl rfl) ?_
  refine GT_nil ?_
  refine GE_block ?_
  refine GE_to (GE_loop (ι := Nat × Int) (fun z => l.length - z.1) (fun z => [(0, .slice A l.length c), (3, I z.2), (4, I z.1)]) (fun z => []) (fun z => (1 ≤ z.1 ∧ z.1 ≤ l.length) ∧ z.2 ∈ l ∧ ∀ j, j < z.1 → z.2 ≤ l.getD j default) ?_ (1, l.getD 0 default) ?_) ⟨rfl, rfl, rfl, trivial⟩ HS.nil
  · rintro ⟨k, x⟩ ⟨⟨hk1, hk⟩, hm1, hall⟩ ih; dsimp only at hk1 hk hm1 hall ih ⊢
    refine GE_seq ?_
    refine GE_seq ?_
    refine GE_plain (.st 0 (.st 1 (.st 2 (.st 3 .nil)))) rfl ?_
    refine GT_st rfl rfl rfl rfl (V_move rfl rfl) ?_
    refine GT_st rfl rfl rfl rfl (V_move rfl rfl) ?_
    refine GT_st rfl rfl rfl rfl (V_len rfl Tryz.underlying43 rfl) ?_
    refine GT_st rfl rfl rfl rfl (V_lss rfl rfl rfl) ?_
    refine GT_nil ?_
    first | refine GE_condNot rfl (fun q1 => ?_) (fun q1 => ?_) | refine GE_cond rfl (fun q1 => ?_) (fun q1 => ?_) | refine GE_condNotB rfl (fun q1 => ?_) (fun q1 => ?_) | refine GE_condB rfl (fun q1 => ?_) (fun q1 => ?_)
    · have hkl : k < l.length := (by omega)
      refine GE_skip ?_
      refine GE_seq ?_
      refine GE_block ?_
      refine GE_slots (L' := [(0, _), (3, _), (4, _)]) ⟨rfl, rfl, rfl, trivial⟩ ?_
      refine GE_plain (.st 0 (.st 1 (.st 2 (.st 3 (.st 4 (.st 5 (.ld 6 [] .nil))))))) rfl ?_
      refine GT_st rfl rfl rfl rfl (V_move rfl rfl) ?_
      refine GT_st rfl rfl rfl rfl (V_move rfl rfl) ?_
      refine GT_st rfl rfl rfl rfl (V_move rfl rfl) ?_
      refine GT_st rfl rfl rfl rfl (V_index rfl rfl rfl Tryz.underlying43 sz_2 rfl hkl (hr.isSome hkl)) ?_
      refine GT_st rfl rfl rfl rfl (V_load rfl rfl ag_2 (hr.at0 noM hkl rfl)) ?_
      refine GT_st rfl rfl rfl rfl (V_min rfl rfl rfl) ?_
      refine GT_ldv rfl rfl rfl rfl rfl (V_assign rfl rfl) (GR_nil) ?_
      refine GT_nil ?_
      refine GE_inBlock ?_
      refine GE_slots (L' := [(0, _), (3, _), (4, _)]) ⟨rfl, rfl, rfl, trivial⟩ ?_
      refine GE_plain (.st 0 (.st 1 (.ld 2 [] .nil))) rfl ?_
      refine GT_st rfl rfl rfl rfl (V_move rfl rfl) ?_
      refine GT_st rfl rfl rfl rfl (V_add rfl rfl rfl (wrap_i64 (by omega))) ?_
      refine GT_ldv rfl rfl rfl rfl rfl (V_assign rfl rfl) (GR_nil) ?_
      refine GT_nil ?_
      exact GE_to (ih (k + 1, min x (l.getD k default)) ⟨⟨by dsimp only; omega, by dsimp only; omega⟩, by dsimp only; rcases (show min x (l.getD k default) = x ∨ min x (l.getD k default) = l.getD k default by omega) with e | e <;> rw [e]; exact hm1; exact getD_memT hkl, fun j hj => by dsimp only at hj ⊢; by_cases e : j = k; (subst e; exact Int.min_le_right ..); exact Int.le_trans (Int.min_le_left ..) (hall j (by omega))⟩ (by dsimp only; omega)) ⟨rfl, rfl, rfl, trivial⟩ HS.nil
    · obtain rfl : k = l.length := (by omega)
      refine GE_exit rfl ?_
      refine GE_seq ?_
      refine GE_slots (L' := [(3, _)]) ⟨rfl, trivial⟩ ?_
      refine GE_plain (.st 0 (.st 1 .nil)) rfl ?_
      refine GT_st rfl rfl rfl rfl (V_move rfl rfl) ?_
      refine GT_st rfl rfl rfl rfl (V_assign rfl rfl) ?_
      refine GT_nil ?_
      refine GE_ret Tryz.func193 rfl (fun w hw => ?_)
      exact ⟨x, ⟨hm1, fun y hy => by obtain ⟨j, hj, rfl⟩ := List.mem_iff_getElem.1 hy; have := hall j hj; simpa [List.getD, hj] using this⟩, rfl, hw.nil⟩
  · exact ⟨⟨Nat.le_refl _, hl0⟩, getD_memT hl0, fun j hj => by obtain rfl : j = 0 := (by omega); exact Int.le_refl _⟩
set_option maxRecDepth 20000 in
theorem C_bends (h : RdL w 2 eP2 A p6) : Con Tryz.prog 192 [.slice A 3 c] w (fun y : Option Addr × Nat × Items => Own 1 2 eN [25] (.slice y.1 1 y.2.1) y.2.2) (fun y => .slice y.1 1 y.2.1) (fun y => y.2.2) := by
  have z0 : 0 < p6.length := (show 0 < 3 by decide)
  have z1 : 1 < p6.length := (show 1 < 3 by decide)
  have z2 : 2 < p6.length := (show 2 < 3 by decide)
  refine Ret_of (vs := [_]) hm none' Tryz.func192 rfl Tryz.ntmps192 rfl ?_
  dsimp only [slotsOf]
  refine GE_seq ?_
  refine GE_plain (.st 0 .nil) rfl ?_
  refine GT_st rfl rfl rfl rfl (V_assign rfl rfl) ?_
  refine GT_nil ?_
  refine GE_seq ?_
  refine GE_plain (.st 0 .nil) rfl ?_
  refine GT_st rfl rfl rfl rfl (V_assign rfl rfl) ?_
  refine GT_nil ?_
  refine GE_seq ?_
  refine GE_seq ?_
  refine GE_plain (.st 0 .nil) rfl ?_
  refine GT_st rfl rfl rfl rfl (V_assign rfl rfl) ?_
  refine GT_nil ?_
  refine GE_block ?_
  refine GE_to (GE_loop (ι := Nat × (Option Addr × Nat × Items)) (fun z => 2 - z.1) (fun z => [(0, .slice A 3 c), (3, .slice z.2.1 (z.1 - 1) z.2.2.1), (4, I z.1)]) (fun z => z.2.2.2) (fun z => (1 ≤ z.1 ∧ z.1 ≤ 2) ∧ Own 1 2 eN (if z.1 = 1 then [] else [25]) (.slice z.2.1 (z.1 - 1) z.2.2.1) z.2.2.2) ?_ (1, (none, 0, [])) ?_) ⟨rfl, rfl, rfl, trivial⟩ HS.nil
  · rintro ⟨k, y⟩ ⟨⟨hk1, hk2⟩, hO⟩ ih; dsimp only at hk1 hk2 hO ih ⊢
    refine GE_seq ?_
    refine GE_seq ?_
    refine GE_plain (.st 0 (.st 1 (.st 2 (.st 3 (.st 4 .nil))))) rfl ?_
    refine GT_st rfl rfl rfl rfl (V_move rfl rfl) ?_
    refine GT_st rfl rfl rfl rfl (V_add rfl rfl rfl (wrap_i64 (by omega))) ?_
    refine GT_st rfl rfl rfl rfl (V_move rfl rfl) ?_
    refine GT_st rfl rfl rfl rfl (V_len rfl Tryz.underlying255 rfl) ?_
    refine GT_st rfl rfl rfl rfl (V_lss rfl rfl rfl) ?_
    refine GT_nil ?_
    first | refine GE_condNot rfl (fun q1 => ?_) (fun q1 => ?_) | refine GE_cond rfl (fun q1 => ?_) (fun q1 => ?_) | refine GE_condNotB rfl (fun q1 => ?_) (fun q1 => ?_) | refine GE_condB rfl (fun q1 => ?_) (fun q1 => ?_)
    · obtain rfl : k = 1 := (by omega)
      refine GE_skip ?_
      refine GE_seq ?_
      refine GE_block ?_
      refine GE_cut (ι := Nat × Nat × Nat) (fun z => [(0, .slice A 3 c), (3, .slice y.1 0 y.2.1), (4, I 1), (5, ptr z.1 0), (6, ptr z.2.1 0), (7, ptr z.2.2 0)]) (fun z => (z.1, blk [I (-100), I 100] 261) :: (z.2.1, blk [I (-100), I 90] 261) :: (z.2.2, blk [I (-95), I 100] 261) :: y.2.2) (fun z => True) ?_ (fun hk => ?_)
      · intro z hx
        refine GE_plain (.st 0 (.st 1 (.st 2 (.st 3 (.st 4 (.st 5 (.st 6 (.st 7 (.st 8 (.st 9 (.st 10 (.st 11 (.st 12 (.st 13 (.st 14 (.st 15 (.st 16 (.st 17 (.st 18 (.ld 19 [] (.ld 20 [] (.ld 21 [] .nil)))))))))))))))))))))) rfl ?_
        refine GT_st rfl rfl rfl rfl (V_move rfl rfl) ?_
        first | refine GT_st rfl rfl rfl rfl (V_field rfl rfl fo_261_0) ?_ | refine GT_st rfl rfl rfl rfl (V_fieldA rfl rfl fo_261_0) ?_
        refine GT_st rfl rfl rfl rfl (V_load rfl rfl ag_2 (CellAt.item rfl)) ?_
        first | refine GT_st rfl rfl rfl rfl (V_field rfl rfl fo_261_1) ?_ | refine GT_st rfl rfl rfl rfl (V_fieldA rfl rfl fo_261_1) ?_
        refine GT_st rfl rfl rfl rfl (V_load rfl rfl ag_2 (CellAt.item rfl)) ?_
        refine GT_st rfl rfl rfl rfl (V_add rfl rfl rfl (wrap_i64 (by omega))) ?_
        first | refine GT_st rfl rfl rfl rfl (V_field rfl rfl fo_261_0) ?_ | refine GT_st rfl rfl rfl rfl (V_fieldA rfl rfl fo_261_0) ?_
        refine GT_st rfl rfl rfl rfl (V_load rfl rfl ag_2 (CellAt.item rfl)) ?_
        refine GT_st rfl rfl rfl rfl (V_add rfl rfl rfl (wrap_i64 (by omega))) ?_
        first | refine GT_st rfl rfl rfl rfl (V_field rfl rfl fo_261_1) ?_ | refine GT_st rfl rfl rfl rfl (V_fieldA rfl rfl fo_261_1) ?_
        refine GT_st rfl rfl rfl rfl (V_load rfl rfl ag_2 (CellAt.item rfl)) ?_
        refine GT_st rfl rfl rfl rfl (V_add rfl rfl rfl (wrap_i64 (by omega))) ?_
        first | refine GT_st rfl rfl rfl rfl (V_field rfl rfl fo_261_0) ?_ | refine GT_st rfl rfl rfl rfl (V_fieldA rfl rfl fo_261_0) ?_
        refine GT_st rfl rfl rfl rfl (V_load rfl rfl ag_2 (CellAt.item rfl)) ?_
        first | refine GT_st rfl rfl rfl rfl (V_field rfl rfl fo_261_1) ?_ | refine GT_st rfl rfl rfl rfl (V_fieldA rfl rfl fo_261_1) ?_
        refine GT_st rfl rfl rfl rfl (V_load rfl rfl ag_2 (CellAt.item rfl)) ?_
        refine GT_st rfl rfl rfl rfl (V_add rfl rfl rfl (wrap_i64 (by omega))) ?_
        refine GT_st rfl rfl rfl rfl (V_mul rfl rfl rfl (wrap_i64 (by omega))) ?_
        refine GT_st rfl rfl rfl rfl (V_sub rfl rfl rfl (wrap_i64 (by omega))) ?_
        refine GT_buildSlice (z := [_]) rfl rfl rfl rfl rfl Tryz.underlying43 zc_2 sz_2 (by decide) rfl rfl (fun _ => GR_nil) (fun b48 => ?_)
        refine GT_append (enc := eN) (l := []) (m := [25]) rfl rfl rfl rfl rfl rfl rfl hO (fun w m => RdL.own' m eN_len) Tryz.underlying43 zc_2 sz_2 ⟨rfl, by decide⟩ by_2 ⟨by decide, by decide⟩ eN_len eN_one (fun _ _ _ _ => GR_nil) (fun A3 c3 I3 hO3 => ?_)
        refine GT_ldv rfl rfl rfl rfl rfl (V_assign rfl rfl) (GR_nil) ?_
        refine GT_nil ?_
        refine GE_inBlock ?_
        refine GE_slots (L' := [(0, _), (3, _), (4, _)]) ⟨rfl, rfl, rfl, trivial⟩ ?_
        refine GE_plain (.st 0 (.st 1 (.ld 2 [] .nil))) rfl ?_
        refine GT_st rfl rfl rfl rfl (V_move rfl rfl) ?_
        refine GT_st rfl rfl rfl rfl (V_add rfl rfl rfl (wrap_i64 (by omega))) ?_
        refine GT_ldv rfl rfl rfl rfl rfl (V_assign rfl rfl) (GR_nil) ?_
        refine GT_nil ?_
        exact GE_to (ih (2, (A3, c3, I3)) ⟨⟨by dsimp only; omega, by dsimp only; omega⟩, hO3⟩ (by dsimp only; omega)) ⟨rfl, rfl, rfl, trivial⟩ HS.last
      · skip
        refine GE_slots (L' := [(0, _), (3, _), (4, _)]) ⟨rfl, rfl, rfl, trivial⟩ ?_
        refine GE_drawn (.st 0 (.st 1 (.st 2 (.st 3 (.st 4 (.st 5 (.st 6 (.st 7 (.st 8 (.st 9 (.st 10 (.st 11 (.st 12 (.st 13 (.br (.ld 14 [0, 1, 2, 3, 4, 5, 6, 7, 8, 9, 10, 11, 12, 13] (.br (.ld 15 [0, 1, 2, 3, 4, 5, 6, 7, 8, 9, 10, 11, 12, 13] (.ld 16 [0, 1, 2, 3, 4, 5, 6, 7, 8, 9, 10, 11, 12, 13] (.ld 17 [5, 6, 7, 8, 9, 10, 11, 12, 13] (.ld 18 [9, 10, 11, 12, 13] (.ld 19 [] .nil))))) (.ld 16 [0, 1, 2, 3, 4, 5, 6, 7, 8, 9, 10, 11, 12, 13] (.ld 15 [0, 1, 2, 3, 4, 5, 6, 7, 8, 9, 10, 11, 12, 13] (.ld 17 [5, 6, 7, 8, 9, 10, 11, 12, 13] (.ld 18 [9, 10, 11, 12, 13] (.ld 19 [] .nil))))))) (.br (.ld 15 [0, 1, 2, 3, 4, 5, 6, 7, 8, 9, 10, 11, 12, 13] (.br (.ld 14 [0, 1, 2, 3, 4, 5, 6, 7, 8, 9, 10, 11, 12, 13] (.ld 16 [0, 1, 2, 3, 4, 5, 6, 7, 8, 9, 10, 11, 12, 13] (.ld 17 [5, 6, 7, 8, 9, 10, 11, 12, 13] (.ld 18 [9, 10, 11, 12, 13] (.ld 19 [] .nil))))) (.ld 16 [0, 1, 2, 3, 4, 5, 6, 7, 8, 9, 10, 11, 12, 13] (.ld 14 [0, 1, 2, 3, 4, 5, 6, 7, 8, 9, 10, 11, 12, 13] (.ld 17 [5, 6, 7, 8, 9, 10, 11, 12, 13] (.ld 18 [9, 10, 11, 12, 13] (.ld 19 [] .nil))))))) (.ld 16 [0, 1, 2, 3, 4, 5, 6, 7, 8, 9, 10, 11, 12, 13] (.br (.ld 14 [0, 1, 2, 3, 4, 5, 6, 7, 8, 9, 10, 11, 12, 13] (.ld 15 [0, 1, 2, 3, 4, 5, 6, 7, 8, 9, 10, 11, 12, 13] (.ld 17 [5, 6, 7, 8, 9, 10, 11, 12, 13] (.ld 18 [9, 10, 11, 12, 13] (.ld 19 [] .nil))))) (.ld 15 [0, 1, 2, 3, 4, 5, 6, 7, 8, 9, 10, 11, 12, 13] (.ld 14 [0, 1, 2, 3, 4, 5, 6, 7, 8, 9, 10, 11, 12, 13] (.ld 17 [5, 6, 7, 8, 9, 10, 11, 12, 13] (.ld 18 [9, 10, 11, 12, 13] (.ld 19 [] .nil))))))))))))))))))))))) [14, 15, 16, 17, 18, 19] (by decide +kernel) ?_
        refine GT_st rfl rfl rfl rfl (V_move rfl rfl) ?_
        refine GT_st rfl rfl rfl rfl (V_move rfl rfl) ?_
        refine GT_st rfl rfl rfl rfl (V_sub rfl rfl rfl (wrap_i64 (by omega))) ?_
        refine GT_st rfl rfl rfl rfl (V_index rfl rfl rfl Tryz.underlying255 sz_261 (k := 0) rfl (by decide) (h.isSome (k := 0) z0)) ?_
        refine GT_st rfl rfl rfl rfl (V_loadN (vs := [_, _]) rfl rfl ag_261 sz_261 rfl (show CellsAt _ _ _ (eP2 (-100, 100)) from h.ats (k := 0) noM z0)) ?_
        refine GT_st rfl rfl rfl rfl (V_move rfl rfl) ?_
        refine GT_st rfl rfl rfl rfl (V_move rfl rfl) ?_
        refine GT_st rfl rfl rfl rfl (V_index rfl rfl rfl Tryz.underlying255 sz_261 (k := 1) rfl (by decide) (h.isSome (k := 1) z1)) ?_
        refine GT_st rfl rfl rfl rfl (V_loadN (vs := [_, _]) rfl rfl ag_261 sz_261 rfl (show CellsAt _ _ _ (eP2 (-100, 90)) from h.ats (k := 1) noM z1)) ?_
        refine GT_st rfl rfl rfl rfl (V_move rfl rfl) ?_
        refine GT_st rfl rfl rfl rfl (V_move rfl rfl) ?_
        refine GT_st rfl rfl rfl rfl (V_add rfl rfl rfl (wrap_i64 (by omega))) ?_
        refine GT_st rfl rfl rfl rfl (V_index rfl rfl rfl Tryz.underlying255 sz_261 (k := 2) rfl (by decide) (h.isSome (k := 2) z2)) ?_
        refine GT_st rfl rfl rfl rfl (V_loadN (vs := [_, _]) rfl rfl ag_261 sz_261 rfl (show CellsAt _ _ _ (eP2 (-95, 100)) from h.ats (k := 2) noM z2)) ?_
        refine GT_br ?_ ?_
        · skip
          refine GT_alloc rfl rfl rfl rfl rfl zc_261 (fun _ => GR_cons rfl rfl rfl rfl (V_move rfl rfl) (GR_cons rfl rfl rfl rfl (V_move rfl rfl) (GR_cons rfl rfl rfl rfl (V_sub rfl rfl rfl (wrap_i64 (by omega))) (GR_cons rfl rfl rfl rfl (V_index rfl rfl rfl Tryz.underlying255 sz_261 (k := 0) rfl (by decide) (h.isSome (k := 0) z0)) (GR_cons rfl rfl rfl rfl (V_loadN (vs := [_, _]) rfl rfl ag_261 sz_261 rfl (show CellsAt _ _ _ (eP2 (-100, 100)) from h.ats (k := 0) noM z0)) (GR_cons rfl rfl rfl rfl (V_move rfl rfl) (GR_cons rfl rfl rfl rfl (V_move rfl rfl) (GR_cons rfl rfl rfl rfl (V_index rfl rfl rfl Tryz.underlying255 sz_261 (k := 1) rfl (by decide) (h.isSome (k := 1) z1)) (GR_cons rfl rfl rfl rfl (V_loadN (vs := [_, _]) rfl rfl ag_261 sz_261 rfl (show CellsAt _ _ _ (eP2 (-100, 90)) from h.ats (k := 1) noM z1)) (GR_cons rfl rfl rfl rfl (V_move rfl rfl) (GR_cons rfl rfl rfl rfl (V_move rfl rfl) (GR_cons rfl rfl rfl rfl (V_add rfl rfl rfl (wrap_i64 (by omega))) (GR_cons rfl rfl rfl rfl (V_index rfl rfl rfl Tryz.underlying255 sz_261 (k := 2) rfl (by decide) (h.isSome (k := 2) z2)) (GR_cons rfl rfl rfl rfl (V_loadN (vs := [_, _]) rfl rfl ag_261 sz_261 rfl (show CellsAt _ _ _ (eP2 (-95, 100)) from h.ats (k := 2) noM z2)) (GR_nil))))))))))))))) (fun b5 => ?_)
          refine GT_br ?_ ?_
          · skip
            refine GT_alloc rfl rfl rfl rfl rfl zc_261 (fun _ => GR_cons rfl rfl rfl rfl (V_move rfl rfl) (GR_cons rfl rfl rfl rfl (V_move rfl rfl) (GR_cons rfl rfl rfl rfl (V_sub rfl rfl rfl (wrap_i64 (by omega))) (GR_cons rfl rfl rfl rfl (V_index rfl rfl rfl Tryz.underlying255 sz_261 (k := 0) rfl (by decide) (h.isSome (k := 0) z0)) (GR_cons rfl rfl rfl rfl (V_loadN (vs := [_, _]) rfl rfl ag_261 sz_261 rfl (show CellsAt _ _ _ (eP2 (-100, 100)) from h.ats (k := 0) noM z0)) (GR_cons rfl rfl rfl rfl (V_move rfl rfl) (GR_cons rfl rfl rfl rfl (V_move rfl rfl) (GR_cons rfl rfl rfl rfl (V_index rfl rfl rfl Tryz.underlying255 sz_261 (k := 1) rfl (by decide) (h.isSome (k := 1) z1)) (GR_cons rfl rfl rfl rfl (V_loadN (vs := [_, _]) rfl rfl ag_261 sz_261 rfl (show CellsAt _ _ _ (eP2 (-100, 90)) from h.ats (k := 1) noM z1)) (GR_cons rfl rfl rfl rfl (V_move rfl rfl) (GR_cons rfl rfl rfl rfl (V_move rfl rfl) (GR_cons rfl rfl rfl rfl (V_add rfl rfl rfl (wrap_i64 (by omega))) (GR_cons rfl rfl rfl rfl (V_index rfl rfl rfl Tryz.underlying255 sz_261 (k := 2) rfl (by decide) (h.isSome (k := 2) z2)) (GR_cons rfl rfl rfl rfl (V_loadN (vs := [_, _]) rfl rfl ag_261 sz_261 rfl (show CellsAt _ _ _ (eP2 (-95, 100)) from h.ats (k := 2) noM z2)) (GR_nil))))))))))))))) (fun b6 => ?_)
            refine GT_alloc rfl rfl rfl rfl rfl zc_261 (fun _ => GR_cons rfl rfl rfl rfl (V_move rfl rfl) (GR_cons rfl rfl rfl rfl (V_move rfl rfl) (GR_cons rfl rfl rfl rfl (V_sub rfl rfl rfl (wrap_i64 (by omega))) (GR_cons rfl rfl rfl rfl (V_index rfl rfl rfl Tryz.underlying255 sz_261 (k := 0) rfl (by decide) (h.isSome (k := 0) z0)) (GR_cons rfl rfl rfl rfl (V_loadN (vs := [_, _]) rfl rfl ag_261 sz_261 rfl (show CellsAt _ _ _ (eP2 (-100, 100)) from h.ats (k := 0) noM z0)) (GR_cons rfl rfl rfl rfl (V_move rfl rfl) (GR_cons rfl rfl rfl rfl (V_move rfl rfl) (GR_cons rfl rfl rfl rfl (V_index rfl rfl rfl Tryz.underlying255 sz_261 (k := 1) rfl (by decide) (h.isSome (k := 1) z1)) (GR_cons rfl rfl rfl rfl (V_loadN (vs := [_, _]) rfl rfl ag_261 sz_261 rfl (show CellsAt _ _ _ (eP2 (-100, 90)) from h.ats (k := 1) noM z1)) (GR_cons rfl rfl rfl rfl (V_move rfl rfl) (GR_cons rfl rfl rfl rfl (V_move rfl rfl) (GR_cons rfl rfl rfl rfl (V_add rfl rfl rfl (wrap_i64 (by omega))) (GR_cons rfl rfl rfl rfl (V_index rfl rfl rfl Tryz.underlying255 sz_261 (k := 2) rfl (by decide) (h.isSome (k := 2) z2)) (GR_cons rfl rfl rfl rfl (V_loadN (vs := [_, _]) rfl rfl ag_261 sz_261 rfl (show CellsAt _ _ _ (eP2 (-95, 100)) from h.ats (k := 2) noM z2)) (GR_nil))))))))))))))) (fun b7 => ?_)
            refine GT_store (vs := [_, _]) (l' := [_, _]) rfl rfl rfl rfl rfl rfl rfl sz_261 rfl rfl (Nat.le_of_ble_eq_true rfl) rfl (GR_cons rfl rfl rfl rfl (V_move rfl rfl) (GR_cons rfl rfl rfl rfl (V_move rfl rfl) (GR_cons rfl rfl rfl rfl (V_index rfl rfl rfl Tryz.underlying255 sz_261 (k := 1) rfl (by decide) (h.isSome (k := 1) z1)) (GR_cons rfl rfl rfl rfl (V_loadN (vs := [_, _]) rfl rfl ag_261 sz_261 rfl (show CellsAt _ _ _ (eP2 (-100, 90)) from h.ats (k := 1) noM z1)) (GR_cons rfl rfl rfl rfl (V_move rfl rfl) (GR_cons rfl rfl rfl rfl (V_move rfl rfl) (GR_cons rfl rfl rfl rfl (V_add rfl rfl rfl (wrap_i64 (by omega))) (GR_cons rfl rfl rfl rfl (V_index rfl rfl rfl Tryz.underlying255 sz_261 (k := 2) rfl (by decide) (h.isSome (k := 2) z2)) (GR_cons rfl rfl rfl rfl (V_loadN (vs := [_, _]) rfl rfl ag_261 sz_261 rfl (show CellsAt _ _ _ (eP2 (-95, 100)) from h.ats (k := 2) noM z2)) (GR_nil)))))))))) ?_
            refine GT_store (vs := [_, _]) (l' := [_, _]) rfl rfl rfl rfl rfl rfl rfl sz_261 rfl rfl (Nat.le_of_ble_eq_true rfl) rfl (GR_cons rfl rfl rfl rfl (V_move rfl rfl) (GR_cons rfl rfl rfl rfl (V_move rfl rfl) (GR_cons rfl rfl rfl rfl (V_add rfl rfl rfl (wrap_i64 (by omega))) (GR_cons rfl rfl rfl rfl (V_index rfl rfl rfl Tryz.underlying255 sz_261 (k := 2) rfl (by decide) (h.isSome (k := 2) z2)) (GR_cons rfl rfl rfl rfl (V_loadN (vs := [_, _]) rfl rfl ag_261 sz_261 rfl (show CellsAt _ _ _ (eP2 (-95, 100)) from h.ats (k := 2) noM z2)) (GR_nil)))))) ?_
            refine GT_store (vs := [_, _]) (l' := [_, _]) rfl rfl rfl rfl rfl rfl rfl sz_261 rfl rfl (Nat.le_of_ble_eq_true rfl) rfl (GR_nil) ?_
            refine GT_nil ?_
            exact GE_to (hk (b5, b6, b7) trivial) ⟨rfl, rfl, rfl, rfl, rfl, rfl, trivial⟩ (HS.cons rfl (HS.cons rfl (HS.cons rfl HS.last)))
          · skip
            refine GT_alloc rfl rfl rfl rfl rfl zc_261 (fun _ => GR_cons rfl rfl rfl rfl (V_move rfl rfl) (GR_cons rfl rfl rfl rfl (V_move rfl rfl) (GR_cons rfl rfl rfl rfl (V_sub rfl rfl rfl (wrap_i64 (by omega))) (GR_cons rfl rfl rfl rfl (V_index rfl rfl rfl Tryz.underlying255 sz_261 (k := 0) rfl (by decide) (h.isSome (k := 0) z0)) (GR_cons rfl rfl rfl rfl (V_loadN (vs := [_, _]) rfl rfl ag_261 sz_261 rfl (show CellsAt _ _ _ (eP2 (-100, 100)) from h.ats (k := 0) noM z0)) (GR_cons rfl rfl rfl rfl (V_move rfl rfl) (GR_cons rfl rfl rfl rfl (V_move rfl rfl) (GR_cons rfl rfl rfl rfl (V_index rfl rfl rfl Tryz.underlying255 sz_261 (k := 1) rfl (by decide) (h.isSome (k := 1) z1)) (GR_cons rfl rfl rfl rfl (V_loadN (vs := [_, _]) rfl rfl ag_261 sz_261 rfl (show CellsAt _ _ _ (eP2 (-100, 90)) from h.ats (k := 1) noM z1)) (GR_cons rfl rfl rfl rfl (V_move rfl rfl) (GR_cons rfl rfl rfl rfl (V_move rfl rfl) (GR_cons rfl rfl rfl rfl (V_add rfl rfl rfl (wrap_i64 (by omega))) (GR_cons rfl rfl rfl rfl (V_index rfl rfl rfl Tryz.underlying255 sz_261 (k := 2) rfl (by decide) (h.isSome (k := 2) z2)) (GR_cons rfl rfl rfl rfl (V_loadN (vs := [_, _]) rfl rfl ag_261 sz_261 rfl (show CellsAt _ _ _ (eP2 (-95, 100)) from h.ats (k := 2) noM z2)) (GR_nil))))))))))))))) (fun b7 => ?_)
            refine GT_alloc rfl rfl rfl rfl rfl zc_261 (fun _ => GR_cons rfl rfl rfl rfl (V_move rfl rfl) (GR_cons rfl rfl rfl rfl (V_move rfl rfl) (GR_cons rfl rfl rfl rfl (V_sub rfl rfl rfl (wrap_i64 (by omega))) (GR_cons rfl rfl rfl rfl (V_index rfl rfl rfl Tryz.underlying255 sz_261 (k := 0) rfl (by decide) (h.isSome (k := 0) z0)) (GR_cons rfl rfl rfl rfl (V_loadN (vs := [_, _]) rfl rfl ag_261 sz_261 rfl (show CellsAt _ _ _ (eP2 (-100, 100)) from h.ats (k := 0) noM z0)) (GR_cons rfl rfl rfl rfl (V_move rfl rfl) (GR_cons rfl rfl rfl rfl (V_move rfl rfl) (GR_cons rfl rfl rfl rfl (V_index rfl rfl rfl Tryz.underlying255 sz_261 (k := 1) rfl (by decide) (h.isSome (k := 1) z1)) (GR_cons rfl rfl rfl rfl (V_loadN (vs := [_, _]) rfl rfl ag_261 sz_261 rfl (show CellsAt _ _ _ (eP2 (-100, 90)) from h.ats (k := 1) noM z1)) (GR_cons rfl rfl rfl rfl (V_move rfl rfl) (GR_cons rfl rfl rfl rfl (V_move rfl rfl) (GR_cons rfl rfl rfl rfl (V_add rfl rfl rfl (wrap_i64 (by omega))) (GR_cons rfl rfl rfl rfl (V_index rfl rfl rfl Tryz.underlying255 sz_261 (k := 2) rfl (by decide) (h.isSome (k := 2) z2)) (GR_cons rfl rfl rfl rfl (V_loadN (vs := [_, _]) rfl rfl ag_261 sz_261 rfl (show CellsAt _ _ _ (eP2 (-95, 100)) from h.ats (k := 2) noM z2)) (GR_nil))))))))))))))) (fun b6 => ?_)
            refine GT_store (vs := [_, _]) (l' := [_, _]) rfl rfl rfl rfl rfl rfl rfl sz_261 rfl rfl (Nat.le_of_ble_eq_true rfl) rfl (GR_cons rfl rfl rfl rfl (V_move rfl rfl) (GR_cons rfl rfl rfl rfl (V_move rfl rfl) (GR_cons rfl rfl rfl rfl (V_index rfl rfl rfl Tryz.underlying255 sz_261 (k := 1) rfl (by decide) (h.isSome (k := 1) z1)) (GR_cons rfl rfl rfl rfl (V_loadN (vs := [_, _]) rfl rfl ag_261 sz_261 rfl (show CellsAt _ _ _ (eP2 (-100, 90)) from h.ats (k := 1) noM z1)) (GR_cons rfl rfl rfl rfl (V_move rfl rfl) (GR_cons rfl rfl rfl rfl (V_move rfl rfl) (GR_cons rfl rfl rfl rfl (V_add rfl rfl rfl (wrap_i64 (by omega))) (GR_cons rfl rfl rfl rfl (V_index rfl rfl rfl Tryz.underlying255 sz_261 (k := 2) rfl (by decide) (h.isSome (k := 2) z2)) (GR_cons rfl rfl rfl rfl (V_loadN (vs := [_, _]) rfl rfl ag_261 sz_261 rfl (show CellsAt _ _ _ (eP2 (-95, 100)) from h.ats (k := 2) noM z2)) (GR_nil)))))))))) ?_
            refine GT_store (vs := [_, _]) (l' := [_, _]) rfl rfl rfl rfl rfl rfl rfl sz_261 rfl rfl (Nat.le_of_ble_eq_true rfl) rfl (GR_cons rfl rfl rfl rfl (V_move rfl rfl) (GR_cons rfl rfl rfl rfl (V_move rfl rfl) (GR_cons rfl rfl rfl rfl (V_add rfl rfl rfl (wrap_i64 (by omega))) (GR_cons rfl rfl rfl rfl (V_index rfl rfl rfl Tryz.underlying255 sz_261 (k := 2) rfl (by decide) (h.isSome (k := 2) z2)) (GR_cons rfl rfl rfl rfl (V_loadN (vs := [_, _]) rfl rfl ag_261 sz_261 rfl (show CellsAt _ _ _ (eP2 (-95, 100)) from h.ats (k := 2) noM z2)) (GR_nil)))))) ?_
            refine GT_store (vs := [_, _]) (l' := [_, _]) rfl rfl rfl rfl rfl rfl rfl sz_261 rfl rfl (Nat.le_of_ble_eq_true rfl) rfl (GR_nil) ?_
            refine GT_nil ?_
            exact GE_to (hk (b5, b6, b7) trivial) ⟨rfl, rfl, rfl, rfl, rfl, rfl, trivial⟩ (HS.cons rfl (HS.cons rfl (HS.cons rfl HS.last)))
        · skip
          refine GT_br ?_ ?_
          · skip
            refine GT_alloc rfl rfl rfl rfl rfl zc_261 (fun _ => GR_cons rfl rfl rfl rfl (V_move rfl rfl) (GR_cons rfl rfl rfl rfl (V_move rfl rfl) (GR_cons rfl rfl rfl rfl (V_sub rfl rfl rfl (wrap_i64 (by omega))) (GR_cons rfl rfl rfl rfl (V_index rfl rfl rfl Tryz.underlying255 sz_261 (k := 0) rfl (by decide) (h.isSome (k := 0) z0)) (GR_cons rfl rfl rfl rfl (V_loadN (vs := [_, _]) rfl rfl ag_261 sz_261 rfl (show CellsAt _ _ _ (eP2 (-100, 100)) from h.ats (k := 0) noM z0)) (GR_cons rfl rfl rfl rfl (V_move rfl rfl) (GR_cons rfl rfl rfl rfl (V_move rfl rfl) (GR_cons rfl rfl rfl rfl (V_index rfl rfl rfl Tryz.underlying255 sz_261 (k := 1) rfl (by decide) (h.isSome (k := 1) z1)) (GR_cons rfl rfl rfl rfl (V_loadN (vs := [_, _]) rfl rfl ag_261 sz_261 rfl (show CellsAt _ _ _ (eP2 (-100, 90)) from h.ats (k := 1) noM z1)) (GR_cons rfl rfl rfl rfl (V_move rfl rfl) (GR_cons rfl rfl rfl rfl (V_move rfl rfl) (GR_cons rfl rfl rfl rfl (V_add rfl rfl rfl (wrap_i64 (by omega))) (GR_cons rfl rfl rfl rfl (V_index rfl rfl rfl Tryz.underlying255 sz_261 (k := 2) rfl (by decide) (h.isSome (k := 2) z2)) (GR_cons rfl rfl rfl rfl (V_loadN (vs := [_, _]) rfl rfl ag_261 sz_261 rfl (show CellsAt _ _ _ (eP2 (-95, 100)) from h.ats (k := 2) noM z2)) (GR_nil))))))))))))))) (fun b6 => ?_)
            refine GT_br ?_ ?_
            · skip
              refine GT_alloc rfl rfl rfl rfl rfl zc_261 (fun _ => GR_cons rfl rfl rfl rfl (V_move rfl rfl) (GR_cons rfl rfl rfl rfl (V_move rfl rfl) (GR_cons rfl rfl rfl rfl (V_sub rfl rfl rfl (wrap_i64 (by omega))) (GR_cons rfl rfl rfl rfl (V_index rfl rfl rfl Tryz.underlying255 sz_261 (k := 0) rfl (by decide) (h.isSome (k := 0) z0)) (GR_cons rfl rfl rfl rfl (V_loadN (vs := [_, _]) rfl rfl ag_261 sz_261 rfl (show CellsAt _ _ _ (eP2 (-100, 100)) from h.ats (k := 0) noM z0)) (GR_cons rfl rfl rfl rfl (V_move rfl rfl) (GR_cons rfl rfl rfl rfl (V_move rfl rfl) (GR_cons rfl rfl rfl rfl (V_index rfl rfl rfl Tryz.underlying255 sz_261 (k := 1) rfl (by decide) (h.isSome (k := 1) z1)) (GR_cons rfl rfl rfl rfl (V_loadN (vs := [_, _]) rfl rfl ag_261 sz_261 rfl (show CellsAt _ _ _ (eP2 (-100, 90)) from h.ats (k := 1) noM z1)) (GR_cons rfl rfl rfl rfl (V_move rfl rfl) (GR_cons rfl rfl rfl rfl (V_move rfl rfl) (GR_cons rfl rfl rfl rfl (V_add rfl rfl rfl (wrap_i64 (by omega))) (GR_cons rfl rfl rfl rfl (V_index rfl rfl rfl Tryz.underlying255 sz_261 (k := 2) rfl (by decide) (h.isSome (k := 2) z2)) (GR_cons rfl rfl rfl rfl (V_loadN (vs := [_, _]) rfl rfl ag_261 sz_261 rfl (show CellsAt _ _ _ (eP2 (-95, 100)) from h.ats (k := 2) noM z2)) (GR_nil))))))))))))))) (fun b5 => ?_)
              refine GT_alloc rfl rfl rfl rfl rfl zc_261 (fun _ => GR_cons rfl rfl rfl rfl (V_move rfl rfl) (GR_cons rfl rfl rfl rfl (V_move rfl rfl) (GR_cons rfl rfl rfl rfl (V_sub rfl rfl rfl (wrap_i64 (by omega))) (GR_cons rfl rfl rfl rfl (V_index rfl rfl rfl Tryz.underlying255 sz_261 (k := 0) rfl (by decide) (h.isSome (k := 0) z0)) (GR_cons rfl rfl rfl rfl (V_loadN (vs := [_, _]) rfl rfl ag_261 sz_261 rfl (show CellsAt _ _ _ (eP2 (-100, 100)) from h.ats (k := 0) noM z0)) (GR_cons rfl rfl rfl rfl (V_move rfl rfl) (GR_cons rfl rfl rfl rfl (V_move rfl rfl) (GR_cons rfl rfl rfl rfl (V_index rfl rfl rfl Tryz.underlying255 sz_261 (k := 1) rfl (by decide) (h.isSome (k := 1) z1)) (GR_cons rfl rfl rfl rfl (V_loadN (vs := [_, _]) rfl rfl ag_261 sz_261 rfl (show CellsAt _ _ _ (eP2 (-100, 90)) from h.ats (k := 1) noM z1)) (GR_cons rfl rfl rfl rfl (V_move rfl rfl) (GR_cons rfl rfl rfl rfl (V_move rfl rfl) (GR_cons rfl rfl rfl rfl (V_add rfl rfl rfl (wrap_i64 (by omega))) (GR_cons rfl rfl rfl rfl (V_index rfl rfl rfl Tryz.underlying255 sz_261 (k := 2) rfl (by decide) (h.isSome (k := 2) z2)) (GR_cons rfl rfl rfl rfl (V_loadN (vs := [_, _]) rfl rfl ag_261 sz_261 rfl (show CellsAt _ _ _ (eP2 (-95, 100)) from h.ats (k := 2) noM z2)) (GR_nil))))))))))))))) (fun b7 => ?_)
              refine GT_store (vs := [_, _]) (l' := [_, _]) rfl rfl rfl rfl rfl rfl rfl sz_261 rfl rfl (Nat.le_of_ble_eq_true rfl) rfl (GR_cons rfl rfl rfl rfl (V_move rfl rfl) (GR_cons rfl rfl rfl rfl (V_move rfl rfl) (GR_cons rfl rfl rfl rfl (V_index rfl rfl rfl Tryz.underlying255 sz_261 (k := 1) rfl (by decide) (h.isSome (k := 1) z1)) (GR_cons rfl rfl rfl rfl (V_loadN (vs := [_, _]) rfl rfl ag_261 sz_261 rfl (show CellsAt _ _ _ (eP2 (-100, 90)) from h.ats (k := 1) noM z1)) (GR_cons rfl rfl rfl rfl (V_move rfl rfl) (GR_cons rfl rfl rfl rfl (V_move rfl rfl) (GR_cons rfl rfl rfl rfl (V_add rfl rfl rfl (wrap_i64 (by omega))) (GR_cons rfl rfl rfl rfl (V_index rfl rfl rfl Tryz.underlying255 sz_261 (k := 2) rfl (by decide) (h.isSome (k := 2) z2)) (GR_cons rfl rfl rfl rfl (V_loadN (vs := [_, _]) rfl rfl ag_261 sz_261 rfl (show CellsAt _ _ _ (eP2 (-95, 100)) from h.ats (k := 2) noM z2)) (GR_nil)))))))))) ?_
              refine GT_store (vs := [_, _]) (l' := [_, _]) rfl rfl rfl rfl rfl rfl rfl sz_261 rfl rfl (Nat.le_of_ble_eq_true rfl) rfl (GR_cons rfl rfl rfl rfl (V_move rfl rfl) (GR_cons rfl rfl rfl rfl (V_move rfl rfl) (GR_cons rfl rfl rfl rfl (V_add rfl rfl rfl (wrap_i64 (by omega))) (GR_cons rfl rfl rfl rfl (V_index rfl rfl rfl Tryz.underlying255 sz_261 (k := 2) rfl (by decide) (h.isSome (k := 2) z2)) (GR_cons rfl rfl rfl rfl (V_loadN (vs := [_, _]) rfl rfl ag_261 sz_261 rfl (show CellsAt _ _ _ (eP2 (-95, 100)) from h.ats (k := 2) noM z2)) (GR_nil)))))) ?_
              refine GT_store (vs := [_, _]) (l' := [_, _]) rfl rfl rfl rfl rfl rfl rfl sz_261 rfl rfl (Nat.le_of_ble_eq_true rfl) rfl (GR_nil) ?_
              refine GT_nil ?_
              exact GE_to (hk (b5, b6, b7) trivial) ⟨rfl, rfl, rfl, rfl, rfl, rfl, trivial⟩ (HS.cons rfl (HS.cons rfl (HS.cons rfl HS.last)))
            · skip
              refine GT_alloc rfl rfl rfl rfl rfl zc_261 (fun _ => GR_cons rfl rfl rfl rfl (V_move rfl rfl) (GR_cons rfl rfl rfl rfl (V_move rfl rfl) (GR_cons rfl rfl rfl rfl (V_sub rfl rfl rfl (wrap_i64 (by omega))) (GR_cons rfl rfl rfl rfl (V_index rfl rfl rfl Tryz.underlying255 sz_261 (k := 0) rfl (by decide) (h.isSome (k := 0) z0)) (GR_cons rfl rfl rfl rfl (V_loadN (vs := [_, _]) rfl rfl ag_261 sz_261 rfl (show CellsAt _ _ _ (eP2 (-100, 100)) from h.ats (k := 0) noM z0)) (GR_cons rfl rfl rfl rfl (V_move rfl rfl) (GR_cons rfl rfl rfl rfl (V_move rfl rfl) (GR_cons rfl rfl rfl rfl (V_index rfl rfl rfl Tryz.underlying255 sz_261 (k := 1) rfl (by decide) (h.isSome (k := 1) z1)) (GR_cons rfl rfl rfl rfl (V_loadN (vs := [_, _]) rfl rfl ag_261 sz_261 rfl (show CellsAt _ _ _ (eP2 (-100, 90)) from h.ats (k := 1) noM z1)) (GR_cons rfl rfl rfl rfl (V_move rfl rfl) (GR_cons rfl rfl rfl rfl (V_move rfl rfl) (GR_cons rfl rfl rfl rfl (V_add rfl rfl rfl (wrap_i64 (by omega))) (GR_cons rfl rfl rfl rfl (V_index rfl rfl rfl Tryz.underlying255 sz_261 (k := 2) rfl (by decide) (h.isSome (k := 2) z2)) (GR_cons rfl rfl rfl rfl (V_loadN (vs := [_, _]) rfl rfl ag_261 sz_261 rfl (show CellsAt _ _ _ (eP2 (-95, 100)) from h.ats (k := 2) noM z2)) (GR_nil))))))))))))))) (fun b7 => ?_)
              refine GT_alloc rfl rfl rfl rfl rfl zc_261 (fun _ => GR_cons rfl rfl rfl rfl (V_move rfl rfl) (GR_cons rfl rfl rfl rfl (V_move rfl rfl) (GR_cons rfl rfl rfl rfl (V_sub rfl rfl rfl (wrap_i64 (by omega))) (GR_cons rfl rfl rfl rfl (V_index rfl rfl rfl Tryz.underlying255 sz_261 (k := 0) rfl (by decide) (h.isSome (k := 0) z0)) (GR_cons rfl rfl rfl rfl (V_loadN (vs := [_, _]) rfl rfl ag_261 sz_261 rfl (show CellsAt _ _ _ (eP2 (-100, 100)) from h.ats (k := 0) noM z0)) (GR_cons rfl rfl rfl rfl (V_move rfl rfl) (GR_cons rfl rfl rfl rfl (V_move rfl rfl) (GR_cons rfl rfl rfl rfl (V_index rfl rfl rfl Tryz.underlying255 sz_261 (k := 1) rfl (by decide) (h.isSome (k := 1) z1)) (GR_cons rfl rfl rfl rfl (V_loadN (vs := [_, _]) rfl rfl ag_261 sz_261 rfl (show CellsAt _ _ _ (eP2 (-100, 90)) from h.ats (k := 1) noM z1)) (GR_cons rfl rfl rfl rfl (V_move rfl rfl) (GR_cons rfl rfl rfl rfl (V_move rfl rfl) (GR_cons rfl rfl rfl rfl (V_add rfl rfl rfl (wrap_i64 (by omega))) (GR_cons rfl rfl rfl rfl (V_index rfl rfl rfl Tryz.underlying255 sz_261 (k := 2) rfl (by decide) (h.isSome (k := 2) z2)) (GR_cons rfl rfl rfl rfl (V_loadN (vs := [_, _]) rfl rfl ag_261 sz_261 rfl (show CellsAt _ _ _ (eP2 (-95, 100)) from h.ats (k := 2) noM z2)) (GR_nil))))))))))))))) (fun b5 => ?_)
              refine GT_store (vs := [_, _]) (l' := [_, _]) rfl rfl rfl rfl rfl rfl rfl sz_261 rfl rfl (Nat.le_of_ble_eq_true rfl) rfl (GR_cons rfl rfl rfl rfl (V_move rfl rfl) (GR_cons rfl rfl rfl rfl (V_move rfl rfl) (GR_cons rfl rfl rfl rfl (V_index rfl rfl rfl Tryz.underlying255 sz_261 (k := 1) rfl (by decide) (h.isSome (k := 1) z1)) (GR_cons rfl rfl rfl rfl (V_loadN (vs := [_, _]) rfl rfl ag_261 sz_261 rfl (show CellsAt _ _ _ (eP2 (-100, 90)) from h.ats (k := 1) noM z1)) (GR_cons rfl rfl rfl rfl (V_move rfl rfl) (GR_cons rfl rfl rfl rfl (V_move rfl rfl) (GR_cons rfl rfl rfl rfl (V_add rfl rfl rfl (wrap_i64 (by omega))) (GR_cons rfl rfl rfl rfl (V_index rfl rfl rfl Tryz.underlying255 sz_261 (k := 2) rfl (by decide) (h.isSome (k := 2) z2)) (GR_cons rfl rfl rfl rfl (V_loadN (vs := [_, _]) rfl rfl ag_261 sz_261 rfl (show CellsAt _ _ _ (eP2 (-95, 100)) from h.ats (k := 2) noM z2)) (GR_nil)))))))))) ?_
              refine GT_store (vs := [_, _]) (l' := [_, _]) rfl rfl rfl rfl rfl rfl rfl sz_261 rfl rfl (Nat.le_of_ble_eq_true rfl) rfl (GR_cons rfl rfl rfl rfl (V_move rfl rfl) (GR_cons rfl rfl rfl rfl (V_move rfl rfl) (GR_cons rfl rfl rfl rfl (V_add rfl rfl rfl (wrap_i64 (by omega))) (GR_cons rfl rfl rfl rfl (V_index rfl rfl rfl Tryz.underlying255 sz_261 (k := 2) rfl (by decide) (h.isSome (k := 2) z2)) (GR_cons rfl rfl rfl rfl (V_loadN (vs := [_, _]) rfl rfl ag_261 sz_261 rfl (show CellsAt _ _ _ (eP2 (-95, 100)) from h.ats (k := 2) noM z2)) (GR_nil)))))) ?_
              refine GT_store (vs := [_, _]) (l' := [_, _]) rfl rfl rfl rfl rfl rfl rfl sz_261 rfl rfl (Nat.le_of_ble_eq_true rfl) rfl (GR_nil) ?_
              refine GT_nil ?_
              exact GE_to (hk (b5, b6, b7) trivial) ⟨rfl, rfl, rfl, rfl, rfl, rfl, trivial⟩ (HS.cons rfl (HS.cons rfl (HS.cons rfl HS.last)))
          · skip
            refine GT_alloc rfl rfl rfl rfl rfl zc_261 (fun _ => GR_cons rfl rfl rfl rfl (V_move rfl rfl) (GR_cons rfl rfl rfl rfl (V_move rfl rfl) (GR_cons rfl rfl rfl rfl (V_sub rfl rfl rfl (wrap_i64 (by omega))) (GR_cons rfl rfl rfl rfl (V_index rfl rfl rfl Tryz.underlying255 sz_261 (k := 0) rfl (by decide) (h.isSome (k := 0) z0)) (GR_cons rfl rfl rfl rfl (V_loadN (vs := [_, _]) rfl rfl ag_261 sz_261 rfl (show CellsAt _ _ _ (eP2 (-100, 100)) from h.ats (k := 0) noM z0)) (GR_cons rfl rfl rfl rfl (V_move rfl rfl) (GR_cons rfl rfl rfl rfl (V_move rfl rfl) (GR_cons rfl rfl rfl rfl (V_index rfl rfl rfl Tryz.underlying255 sz_261 (k := 1) rfl (by decide) (h.isSome (k := 1) z1)) (GR_cons rfl rfl rfl rfl (V_loadN (vs := [_, _]) rfl rfl ag_261 sz_261 rfl (show CellsAt _ _ _ (eP2 (-100, 90)) from h.ats (k := 1) noM z1)) (GR_cons rfl rfl rfl rfl (V_move rfl rfl) (GR_cons rfl rfl rfl rfl (V_move rfl rfl) (GR_cons rfl rfl rfl rfl (V_add rfl rfl rfl (wrap_i64 (by omega))) (GR_cons rfl rfl rfl rfl (V_index rfl rfl rfl Tryz.underlying255 sz_261 (k := 2) rfl (by decide) (h.isSome (k := 2) z2)) (GR_cons rfl rfl rfl rfl (V_loadN (vs := [_, _]) rfl rfl ag_261 sz_261 rfl (show CellsAt _ _ _ (eP2 (-95, 100)) from h.ats (k := 2) noM z2)) (GR_nil))))))))))))))) (fun b7 => ?_)
            refine GT_br ?_ ?_
            · skip
              refine GT_alloc rfl rfl rfl rfl rfl zc_261 (fun _ => GR_cons rfl rfl rfl rfl (V_move rfl rfl) (GR_cons rfl rfl rfl rfl (V_move rfl rfl) (GR_cons rfl rfl rfl rfl (V_sub rfl rfl rfl (wrap_i64 (by omega))) (GR_cons rfl rfl rfl rfl (V_index rfl rfl rfl Tryz.underlying255 sz_261 (k := 0) rfl (by decide) (h.isSome (k := 0) z0)) (GR_cons rfl rfl rfl rfl (V_loadN (vs := [_, _]) rfl rfl ag_261 sz_261 rfl (show CellsAt _ _ _ (eP2 (-100, 100)) from h.ats (k := 0) noM z0)) (GR_cons rfl rfl rfl rfl (V_move rfl rfl) (GR_cons rfl rfl rfl rfl (V_move rfl rfl) (GR_cons rfl rfl rfl rfl (V_index rfl rfl rfl Tryz.underlying255 sz_261 (k := 1) rfl (by decide) (h.isSome (k := 1) z1)) (GR_cons rfl rfl rfl rfl (V_loadN (vs := [_, _]) rfl rfl ag_261 sz_261 rfl (show CellsAt _ _ _ (eP2 (-100, 90)) from h.ats (k := 1) noM z1)) (GR_cons rfl rfl rfl rfl (V_move rfl rfl) (GR_cons rfl rfl rfl rfl (V_move rfl rfl) (GR_cons rfl rfl rfl rfl (V_add rfl rfl rfl (wrap_i64 (by omega))) (GR_cons rfl rfl rfl rfl (V_index rfl rfl rfl Tryz.underlying255 sz_261 (k := 2) rfl (by decide) (h.isSome (k := 2) z2)) (GR_cons rfl rfl rfl rfl (V_loadN (vs := [_, _]) rfl rfl ag_261 sz_261 rfl (show CellsAt _ _ _ (eP2 (-95, 100)) from h.ats (k := 2) noM z2)) (GR_nil))))))))))))))) (fun b5 => ?_)
              refine GT_alloc rfl rfl rfl rfl rfl zc_261 (fun _ => GR_cons rfl rfl rfl rfl (V_move rfl rfl) (GR_cons rfl rfl rfl rfl (V_move rfl rfl) (GR_cons rfl rfl rfl rfl (V_sub rfl rfl rfl (wrap_i64 (by omega))) (GR_cons rfl rfl rfl rfl (V_index rfl rfl rfl Tryz.underlying255 sz_261 (k := 0) rfl (by decide) (h.isSome (k := 0) z0)) (GR_cons rfl rfl rfl rfl (V_loadN (vs := [_, _]) rfl rfl ag_261 sz_261 rfl (show CellsAt _ _ _ (eP2 (-100, 100)) from h.ats (k := 0) noM z0)) (GR_cons rfl rfl rfl rfl (V_move rfl rfl) (GR_cons rfl rfl rfl rfl (V_move rfl rfl) (GR_cons rfl rfl rfl rfl (V_index rfl rfl rfl Tryz.underlying255 sz_261 (k := 1) rfl (by decide) (h.isSome (k := 1) z1)) (GR_cons rfl rfl rfl rfl (V_loadN (vs := [_, _]) rfl rfl ag_261 sz_261 rfl (show CellsAt _ _ _ (eP2 (-100, 90)) from h.ats (k := 1) noM z1)) (GR_cons rfl rfl rfl rfl (V_move rfl rfl) (GR_cons rfl rfl rfl rfl (V_move rfl rfl) (GR_cons rfl rfl rfl rfl (V_add rfl rfl rfl (wrap_i64 (by omega))) (GR_cons rfl rfl rfl rfl (V_index rfl rfl rfl Tryz.underlying255 sz_261 (k := 2) rfl (by decide) (h.isSome (k := 2) z2)) (GR_cons rfl rfl rfl rfl (V_loadN (vs := [_, _]) rfl rfl ag_261 sz_261 rfl (show CellsAt _ _ _ (eP2 (-95, 100)) from h.ats (k := 2) noM z2)) (GR_nil))))))))))))))) (fun b6 => ?_)
              refine GT_store (vs := [_, _]) (l' := [_, _]) rfl rfl rfl rfl rfl rfl rfl sz_261 rfl rfl (Nat.le_of_ble_eq_true rfl) rfl (GR_cons rfl rfl rfl rfl (V_move rfl rfl) (GR_cons rfl rfl rfl rfl (V_move rfl rfl) (GR_cons rfl rfl rfl rfl (V_index rfl rfl rfl Tryz.underlying255 sz_261 (k := 1) rfl (by decide) (h.isSome (k := 1) z1)) (GR_cons rfl rfl rfl rfl (V_loadN (vs := [_, _]) rfl rfl ag_261 sz_261 rfl (show CellsAt _ _ _ (eP2 (-100, 90)) from h.ats (k := 1) noM z1)) (GR_cons rfl rfl rfl rfl (V_move rfl rfl) (GR_cons rfl rfl rfl rfl (V_move rfl rfl) (GR_cons rfl rfl rfl rfl (V_add rfl rfl rfl (wrap_i64 (by omega))) (GR_cons rfl rfl rfl rfl (V_index rfl rfl rfl Tryz.underlying255 sz_261 (k := 2) rfl (by decide) (h.isSome (k := 2) z2)) (GR_cons rfl rfl rfl rfl (V_loadN (vs := [_, _]) rfl rfl ag_261 sz_261 rfl (show CellsAt _ _ _ (eP2 (-95, 100)) from h.ats (k := 2) noM z2)) (GR_nil)))))))))) ?_
              refine GT_store (vs := [_, _]) (l' := [_, _]) rfl rfl rfl rfl rfl rfl rfl sz_261 rfl rfl (Nat.le_of_ble_eq_true rfl) rfl (GR_cons rfl rfl rfl rfl (V_move rfl rfl) (GR_cons rfl rfl rfl rfl (V_move rfl rfl) (GR_cons rfl rfl rfl rfl (V_add rfl rfl rfl (wrap_i64 (by omega))) (GR_cons rfl rfl rfl rfl (V_index rfl rfl rfl Tryz.underlying255 sz_261 (k := 2) rfl (by decide) (h.isSome (k := 2) z2)) (GR_cons rfl rfl rfl rfl (V_loadN (vs := [_, _]) rfl rfl ag_261 sz_261 rfl (show CellsAt _ _ _ (eP2 (-95, 100)) from h.ats (k := 2) noM z2)) (GR_nil)))))) ?_
              refine GT_store (vs := [_, _]) (l' := [_, _]) rfl rfl rfl rfl rfl rfl rfl sz_261 rfl rfl (Nat.le_of_ble_eq_true rfl) rfl (GR_nil) ?_
              refine GT_nil ?_
              exact GE_to (hk (b5, b6, b7) trivial) ⟨rfl, rfl, rfl, rfl, rfl, rfl, trivial⟩ (HS.cons rfl (HS.cons rfl (HS.cons rfl HS.last)))
            · skip
              refine GT_alloc rfl rfl rfl rfl rfl zc_261 (fun _ => GR_cons rfl rfl rfl rfl (V_move rfl rfl) (GR_cons rfl rfl rfl rfl (V_move rfl rfl) (GR_cons rfl rfl rfl rfl (V_sub rfl rfl rfl (wrap_i64 (by omega))) (GR_cons rfl rfl rfl rfl (V_index rfl rfl rfl Tryz.underlying255 sz_261 (k := 0) rfl (by decide) (h.isSome (k := 0) z0)) (GR_cons rfl rfl rfl rfl (V_loadN (vs := [_, _]) rfl rfl ag_261 sz_261 rfl (show CellsAt _ _ _ (eP2 (-100, 100)) from h.ats (k := 0) noM z0)) (GR_cons rfl rfl rfl rfl (V_move rfl rfl) (GR_cons rfl rfl rfl rfl (V_move rfl rfl) (GR_cons rfl rfl rfl rfl (V_index rfl rfl rfl Tryz.underlying255 sz_261 (k := 1) rfl (by decide) (h.isSome (k := 1) z1)) (GR_cons rfl rfl rfl rfl (V_loadN (vs := [_, _]) rfl rfl ag_261 sz_261 rfl (show CellsAt _ _ _ (eP2 (-100, 90)) from h.ats (k := 1) noM z1)) (GR_cons rfl rfl rfl rfl (V_move rfl rfl) (GR_cons rfl rfl rfl rfl (V_move rfl rfl) (GR_cons rfl rfl rfl rfl (V_add rfl rfl rfl (wrap_i64 (by omega))) (GR_cons rfl rfl rfl rfl (V_index rfl rfl rfl Tryz.underlying255 sz_261 (k := 2) rfl (by decide) (h.isSome (k := 2) z2)) (GR_cons rfl rfl rfl rfl (V_loadN (vs := [_, _]) rfl rfl ag_261 sz_261 rfl (show CellsAt _ _ _ (eP2 (-95, 100)) from h.ats (k := 2) noM z2)) (GR_nil))))))))))))))) (fun b6 => ?_)
              refine GT_alloc rfl rfl rfl rfl rfl zc_261 (fun _ => GR_cons rfl rfl rfl rfl (V_move rfl rfl) (GR_cons rfl rfl rfl rfl (V_move rfl rfl) (GR_cons rfl rfl rfl rfl (V_sub rfl rfl rfl (wrap_i64 (by omega))) (GR_cons rfl rfl rfl rfl (V_index rfl rfl rfl Tryz.underlying255 sz_261 (k := 0) rfl (by decide) (h.isSome (k := 0) z0)) (GR_cons rfl rfl rfl rfl (V_loadN (vs := [_, _]) rfl rfl ag_261 sz_261 rfl (show CellsAt _ _ _ (eP2 (-100, 100)) from h.ats (k := 0) noM z0)) (GR_cons rfl rfl rfl rfl (V_move rfl rfl) (GR_cons rfl rfl rfl rfl (V_move rfl rfl) (GR_cons rfl rfl rfl rfl (V_index rfl rfl rfl Tryz.underlying255 sz_261 (k := 1) rfl (by decide) (h.isSome (k := 1) z1)) (GR_cons rfl rfl rfl rfl (V_loadN (vs := [_, _]) rfl rfl ag_261 sz_261 rfl (show CellsAt _ _ _ (eP2 (-100, 90)) from h.ats (k := 1) noM z1)) (GR_cons rfl rfl rfl rfl (V_move rfl rfl) (GR_cons rfl rfl rfl rfl (V_move rfl rfl) (GR_cons rfl rfl rfl rfl (V_add rfl rfl rfl (wrap_i64 (by omega))) (GR_cons rfl rfl rfl rfl (V_index rfl rfl rfl Tryz.underlying255 sz_261 (k := 2) rfl (by decide) (h.isSome (k := 2) z2)) (GR_cons rfl rfl rfl rfl (V_loadN (vs := [_, _]) rfl rfl ag_261 sz_261 rfl (show CellsAt _ _ _ (eP2 (-95, 100)) from h.ats (k := 2) noM z2)) (GR_nil))))))))))))))) (fun b5 => ?_)
              refine GT_store (vs := [_, _]) (l' := [_, _]) rfl rfl rfl rfl rfl rfl rfl sz_261 rfl rfl (Nat.le_of_ble_eq_true rfl) rfl (GR_cons rfl rfl rfl rfl (V_move rfl rfl) (GR_cons rfl rfl rfl rfl (V_move rfl rfl) (GR_cons rfl rfl rfl rfl (V_index rfl rfl rfl Tryz.underlying255 sz_261 (k := 1) rfl (by decide) (h.isSome (k := 1) z1)) (GR_cons rfl rfl rfl rfl (V_loadN (vs := [_, _]) rfl rfl ag_261 sz_261 rfl (show CellsAt _ _ _ (eP2 (-100, 90)) from h.ats (k := 1) noM z1)) (GR_cons rfl rfl rfl rfl (V_move rfl rfl) (GR_cons rfl rfl rfl rfl (V_move rfl rfl) (GR_cons rfl rfl rfl rfl (V_add rfl rfl rfl (wrap_i64 (by omega))) (GR_cons rfl rfl rfl rfl (V_index rfl rfl rfl Tryz.underlying255 sz_261 (k := 2) rfl (by decide) (h.isSome (k := 2) z2)) (GR_cons rfl rfl rfl rfl (V_loadN (vs := [_, _]) rfl rfl ag_261 sz_261 rfl (show CellsAt _ _ _ (eP2 (-95, 100)) from h.ats (k := 2) noM z2)) (GR_nil)))))))))) ?_
              refine GT_store (vs := [_, _]) (l' := [_, _]) rfl rfl rfl rfl rfl rfl rfl sz_261 rfl rfl (Nat.le_of_ble_eq_true rfl) rfl (GR_cons rfl rfl rfl rfl (V_move rfl rfl) (GR_cons rfl rfl rfl rfl (V_move rfl rfl) (GR_cons rfl rfl rfl rfl (V_add rfl rfl rfl (wrap_i64 (by omega))) (GR_cons rfl rfl rfl rfl (V_index rfl rfl rfl Tryz.underlying255 sz_261 (k := 2) rfl (by decide) (h.isSome (k := 2) z2)) (GR_cons rfl rfl rfl rfl (V_loadN (vs := [_, _]) rfl rfl ag_261 sz_261 rfl (show CellsAt _ _ _ (eP2 (-95, 100)) from h.ats (k := 2) noM z2)) (GR_nil)))))) ?_
              refine GT_store (vs := [_, _]) (l' := [_, _]) rfl rfl rfl rfl rfl rfl rfl sz_261 rfl rfl (Nat.le_of_ble_eq_true rfl) rfl (GR_nil) ?_
              refine GT_nil ?_
              exact GE_to (hk (b5, b6, b7) trivial) ⟨rfl, rfl, rfl, rfl, rfl, rfl, trivial⟩ (HS.cons rfl (HS.cons rfl (HS.cons rfl HS.last)))
    · obtain rfl : k = 2 := (by omega)
      refine GE_exit rfl ?_
      refine GE_seq ?_
      refine GE_slots (L' := [(3, _)]) ⟨rfl, trivial⟩ ?_
      refine GE_plain (.st 0 (.st 1 .nil)) rfl ?_
      refine GT_st rfl rfl rfl rfl (V_move rfl rfl) ?_
      refine GT_st rfl rfl rfl rfl (V_assign rfl rfl) ?_
      refine GT_nil ?_
      refine GE_ret Tryz.func192 rfl (fun w hw => ?_)
      exact ⟨y, hO, rfl, hw.hs (C := cx Tryz.prog hm 0 0 _ none' fun _ _ => True) HS.last⟩
  · exact ⟨⟨by decide, by decide⟩, Own.nil⟩
theorem C_Balance (h : RdL w 2 eP2 A p6) : Con0 Tryz.prog 132 [.slice A 3 c] w (.tuple #[.agg #[I 0, I 25], I 0]) := by
  refine Ret_of (vs := [_]) hm none' Tryz.func132 rfl Tryz.ntmps132 rfl ?_
  dsimp only [slotsOf]
  refine GE_seq ?_
  refine GE_plain (.ld 0 [] (.st 1 .nil)) rfl ?_
  refine GT_alloc rfl rfl rfl rfl rfl zc_287 (fun _ => GR_nil) (fun b2 => ?_)
  refine GT_st rfl rfl rfl rfl (V_assign rfl rfl) ?_
  refine GT_nil ?_
  refine GE_seq ?_
  refine GE_plain (.st 0 (.ld 1 [] (.st 2 .nil))) rfl ?_
  refine GT_st rfl rfl rfl rfl (V_move rfl rfl) ?_
  refine GT_call0 rfl rfl rfl rfl rfl rfl rfl rfl rn_191 (fun w hw => C_CheckPts (h.sh hw)) (GR_nil) ?_
  refine GT_st rfl rfl rfl rfl (V_assign rfl rfl) ?_
  refine GT_nil ?_
  refine GE_seq ?_
  refine GE_seq ?_
  refine GE_plain (.st 0 (.st 1 (.st 2 (.st 3 (.st 4 (.st 5 (.st 6 .nil))))))) rfl ?_
  refine GT_st rfl rfl rfl rfl (V_move rfl rfl) ?_
  refine GT_st rfl rfl rfl rfl (V_isF (V_neq rfl rfl rfl) (fun q => q rfl)) ?_
  refine GT_st rfl rfl rfl rfl (V_move rfl rfl) ?_
  refine GT_st_g rfl rfl rfl rfl rfl rfl rfl (V_move rfl rfl) ?_
  refine GT_st_g rfl rfl rfl rfl rfl rfl rfl (V_len rfl Tryz.underlying255 rfl) ?_
  refine GT_st_g rfl rfl rfl rfl rfl rfl rfl (V_isF (V_lss rfl rfl rfl) (by decide)) ?_
  refine GT_st rfl rfl rfl rfl (V_pick_f rfl rfl rfl) ?_
  refine GT_nil ?_
  refine GE_cond_f rfl ?_
  refine GE_skip ?_
  refine GE_seq ?_
  refine GE_slots (L' := [(0, _), (2, _)]) ⟨rfl, rfl, trivial⟩ ?_
  refine GE_plain (.st 0 (.ld 1 [] (.st 2 .nil))) rfl ?_
  refine GT_st rfl rfl rfl rfl (V_move rfl rfl) ?_
  refine GT_call rfl rfl rfl rfl rfl rfl rfl rfl rn_192 (fun w hw => C_bends (h.sh hw)) (fun _ _ => GR_nil) (fun y hy => ?_)
  refine GT_st rfl rfl rfl rfl (V_assign rfl rfl) ?_
  refine GT_nil ?_
  refine GE_seq ?_
  refine GE_plain (.st 0 (.ld 1 [] (.st 2 (.ld 3 [] (.st 4 (.st 5 .nil)))))) rfl ?_
  refine GT_st rfl rfl rfl rfl (V_move rfl rfl) ?_
  refine GT_call rfl rfl rfl rfl rfl rfl rfl rfl rn_193 (fun w hw => C_Min (l := [25]) (hy.rdH eN_len hw) ⟨by decide, by decide⟩) (fun _ _ => GR_nil) (fun lo hlo => ?_)
  refine GT_st rfl rfl rfl rfl (V_move rfl rfl) ?_
  refine GT_call rfl rfl rfl rfl rfl rfl rfl rfl rn_145 (fun w hw => Slv.C_Max (l := [25]) (hy.rdH eN_len hw) ⟨by decide, by decide⟩) (fun _ _ => GR_nil) (fun hi hhi => ?_)
  obtain rfl : lo = 25 := List.mem_singleton.1 hlo.1; obtain rfl : hi = 25 := List.mem_singleton.1 hhi.1
  refine GT_st rfl rfl rfl rfl (V_assign rfl rfl) ?_
  refine GT_st rfl rfl rfl rfl (V_assign rfl rfl) ?_
  refine GT_nil ?_
  refine GE_seq ?_
  refine GE_slots (L' := [(2, _), (6, _), (7, _)]) ⟨rfl, rfl, rfl, trivial⟩ ?_
  refine GE_plain (.st 0 (.st 1 (.st 2 (.st 3 (.st 4 (.st 5 .nil)))))) rfl ?_
  refine GT_st rfl rfl rfl rfl (V_move rfl rfl) ?_
  refine GT_st rfl rfl rfl rfl (V_move rfl rfl) ?_
  refine GT_st rfl rfl rfl rfl (V_sub rfl rfl rfl (wrap_i64 (by omega))) ?_
  refine GT_st rfl rfl rfl rfl (V_add rfl rfl rfl (wrap_i64 (by omega))) ?_
  refine GT_st rfl rfl rfl rfl (V_quo rfl rfl rfl (by omega) ((show IntKind.i64.wrap (((25 : Int) - 25 + 1).tdiv 2) = 0 from by decide))) ?_
  refine GT_st rfl rfl rfl rfl (V_assign rfl rfl) ?_
  refine GT_nil ?_
  refine GE_seq ?_
  refine GE_slots (L' := [(2, _), (7, _), (8, _)]) ⟨rfl, rfl, rfl, trivial⟩ ?_
  refine GE_plain (.st 0 (.st 1 (.st 2 (.st 3 (.st 4 (.ld 5 [] (.st 6 .nil))))))) rfl ?_
  refine GT_st rfl rfl rfl rfl (V_move rfl rfl) ?_
  refine GT_st rfl rfl rfl rfl (V_move rfl rfl) ?_
  refine GT_st rfl rfl rfl rfl (V_move rfl rfl) ?_
  refine GT_st rfl rfl rfl rfl (V_sub rfl rfl rfl ((show IntKind.i64.wrap ((25 : Int) - 0) = 25 from by decide))) ?_
  refine GT_st rfl rfl rfl rfl (V_build (vs := [_, _]) rfl rfl zc_287 pl_287 sa_287 rfl) ?_
  refine GT_store (vs := [_, _]) (l' := [_, _]) rfl rfl rfl rfl rfl rfl rfl sz_287 rfl rfl (Nat.le_of_ble_eq_true rfl) rfl (GR_nil) ?_
  refine GT_st rfl rfl rfl rfl (V_assign rfl rfl) ?_
  refine GT_nil ?_
  refine GE_ret Tryz.func132 ⟨_, _, ⟨_, rfl, fun w m => run_loadVar_agg (vs := [_, _]) ag_287 sz_287 rfl (fun j v hj => CellsAt.item rfl j v hj w m)⟩, rfl, rfl⟩ (fun w hw => ⟨?_, hw.nil⟩)
  rfl
end
end Go.Proofs.YtpbflnfcgcldkaaGreatDoor.Ply
/- What a tip reads of a groove, walked; the example. -/
namespace Go.Proofs.YtpbflnfcgcldkaaGreatDoor.Ply
open Go.Sx Go.Proofs Go.RowKit
open Side (eN eN_len eN_one getD_memT sh_trans eP2 eP2_len eP2_one)
def ofO (p : Int × Int) : Int := p.2
def ofI (p : Int × Int) : Int := -p.1
def bkO (n : Int) : Int := n
def bkI (n : Int) : Int := -n
def rO (P : List (Int × Int)) (sh : List Int) : List Int := (wal (P.map ofO) sh).map bkO
def rI (P : List (Int × Int)) (sh : List Int) : List Int := (wal (P.map ofI) sh).map bkI
def rdi (P : List (Int × Int)) (sh : List Int) (i : Nat) : Int × Int := ((rI P sh).getD i default, (rO P sh).getD i default)
def rd (P : List (Int × Int)) (sh : List Int) : List (Int × Int) := (List.range P.length).map (rdi P sh)
def PtsOk (P : List (Int × Int)) : Prop := P.length ≤ 1000 ∧ ∀ p ∈ P, (-4194304 ≤ p.1 ∧ p.1 ≤ 4194304) ∧ -4194304 ≤ p.2 ∧ p.2 ≤ 4194304
def ShOk (sh : List Int) : Prop := (1 ≤ sh.length ∧ sh.length ≤ 64) ∧ ∀ x ∈ sh, 0 ≤ x ∧ x ≤ 4194304
theorem wok_O {P : List (Int × Int)} {sh : List Int} (h : PtsOk P) (hs : ShOk sh) : WOk (P.map ofO) sh :=
  ⟨by rw [List.length_map]; exact h.1, hs.1, fun x hx => by obtain ⟨p, hp, rfl⟩ := List.mem_map.1 hx; exact (h.2 p hp).2, hs.2⟩
theorem wok_I {P : List (Int × Int)} {sh : List Int} (h : PtsOk P) (hs : ShOk sh) : WOk (P.map ofI) sh :=
  ⟨by rw [List.length_map]; exact h.1, hs.1, fun x hx => by obtain ⟨p, hp, rfl⟩ := List.mem_map.1 hx; have := (h.2 p hp).1; unfold ofI; omega, hs.2⟩
section
variable {w : World} {A A2 : Option Addr} {c c2 gt : Nat} {sh : List Int} {P : List (Int × Int)}
theorem C_oof {p : Int × Int} : Con0 Tryz.prog 398 [.agg #[], .agg #[I p.1, I p.2]] w (I (ofO p)) := by
  refine Ret_of (vs := [_, _]) hm none' Tryz.func398 rfl Tryz.ntmps398 rfl ?_
  dsimp only [slotsOf]
  refine GE_seq ?_
  refine GE_plain (.ld 0 [] (.ld 1 [] (.st 2 .nil))) rfl ?_
  refine GT_box (z := []) rfl rfl rfl rfl rfl rfl rfl (fun _ => GR_nil) (fun b2 => ?_)
  refine GT_box (z := [_, _]) rfl rfl rfl rfl rfl rfl rfl (fun _ => GR_nil) (fun b3 => ?_)
  refine GT_st rfl rfl rfl rfl (V_assign rfl rfl) ?_
  refine GT_nil ?_
  refine GE_seq ?_
  refine GE_slots (L' := [(3, _)]) ⟨rfl, trivial⟩ ?_
  refine GE_plain (.st 0 (.st 1 (.st 2 .nil))) rfl ?_
  first | refine GT_st rfl rfl rfl rfl (V_field rfl rfl fo_261_1) ?_ | refine GT_st rfl rfl rfl rfl (V_fieldA rfl rfl fo_261_1) ?_
  refine GT_st rfl rfl rfl rfl (V_load rfl rfl ag_2 (CellAt.item rfl)) ?_
  refine GT_st rfl rfl rfl rfl (V_assign rfl rfl) ?_
  refine GT_nil ?_
  refine GE_ret Tryz.func398 rfl (fun w hw => ⟨?_, hw.nil⟩)
  rfl
theorem C_obk {x : Int} : Con0 Tryz.prog 397 [.agg #[], I x] w (I (bkO x)) := by
  refine Ret_of (vs := [_, _]) hm none' Tryz.func397 rfl Tryz.ntmps397 rfl ?_
  dsimp only [slotsOf]
  refine GE_seq ?_
  refine GE_plain (.ld 0 [] (.st 1 .nil)) rfl ?_
  refine GT_box (z := []) rfl rfl rfl rfl rfl rfl rfl (fun _ => GR_nil) (fun b2 => ?_)
  refine GT_st rfl rfl rfl rfl (V_assign rfl rfl) ?_
  refine GT_nil ?_
  refine GE_seq ?_
  refine GE_plain (.st 0 (.st 1 .nil)) rfl ?_
  refine GT_st rfl rfl rfl rfl (V_move rfl rfl) ?_
  refine GT_st rfl rfl rfl rfl (V_assign rfl rfl) ?_
  refine GT_nil ?_
  refine GE_ret Tryz.func397 rfl (fun w hw => ⟨?_, hw.nil⟩)
  rfl
theorem C_iof {p : Int × Int} (h : -4194304 ≤ p.1 ∧ p.1 ≤ 4194304) : Con0 Tryz.prog 400 [.agg #[], .agg #[I p.1, I p.2]] w (I (ofI p)) := by
  refine Ret_of (vs := [_, _]) hm none' Tryz.func400 rfl Tryz.ntmps400 rfl ?_
  dsimp only [slotsOf]
  refine GE_seq ?_
  refine GE_plain (.ld 0 [] (.ld 1 [] (.st 2 .nil))) rfl ?_
  refine GT_box (z := []) rfl rfl rfl rfl rfl rfl rfl (fun _ => GR_nil) (fun b2 => ?_)
  refine GT_box (z := [_, _]) rfl rfl rfl rfl rfl rfl rfl (fun _ => GR_nil) (fun b3 => ?_)
  refine GT_st rfl rfl rfl rfl (V_assign rfl rfl) ?_
  refine GT_nil ?_
  refine GE_seq ?_
  refine GE_slots (L' := [(3, _)]) ⟨rfl, trivial⟩ ?_
  refine GE_plain (.st 0 (.st 1 (.st 2 (.st 3 .nil)))) rfl ?_
  first | refine GT_st rfl rfl rfl rfl (V_field rfl rfl fo_261_0) ?_ | refine GT_st rfl rfl rfl rfl (V_fieldA rfl rfl fo_261_0) ?_
  refine GT_st rfl rfl rfl rfl (V_load rfl rfl ag_2 (CellAt.item rfl)) ?_
  refine GT_st rfl rfl rfl rfl (V_neg rfl rfl (wrap_i64 (by omega))) ?_
  refine GT_st rfl rfl rfl rfl (V_assign rfl rfl) ?_
  refine GT_nil ?_
  refine GE_ret Tryz.func400 rfl (fun w hw => ⟨?_, hw.nil⟩)
  refine congrArg I ?_; unfold ofI; omega
theorem C_ibk {x : Int} (h : -4194304 ≤ x ∧ x ≤ 4194304) : Con0 Tryz.prog 399 [.agg #[], I x] w (I (bkI x)) := by
  refine Ret_of (vs := [_, _]) hm none' Tryz.func399 rfl Tryz.ntmps399 rfl ?_
  dsimp only [slotsOf]
  refine GE_seq ?_
  refine GE_plain (.ld 0 [] (.st 1 .nil)) rfl ?_
  refine GT_box (z := []) rfl rfl rfl rfl rfl rfl rfl (fun _ => GR_nil) (fun b2 => ?_)
  refine GT_st rfl rfl rfl rfl (V_assign rfl rfl) ?_
  refine GT_nil ?_
  refine GE_seq ?_
  refine GE_plain (.st 0 (.st 1 (.st 2 .nil))) rfl ?_
  refine GT_st rfl rfl rfl rfl (V_move rfl rfl) ?_
  refine GT_st rfl rfl rfl rfl (V_neg rfl rfl (wrap_i64 (by omega))) ?_
  refine GT_st rfl rfl rfl rfl (V_assign rfl rfl) ?_
  refine GT_nil ?_
  refine GE_ret Tryz.func399 rfl (fun w hw => ⟨?_, hw.nil⟩)
  refine congrArg I ?_; unfold bkI; omega
set_option maxRecDepth 10000 in
theorem C_walls (hg : BlkAt w gt [.slice A2 sh.length c2] 259) (hr : RdL w 2 eP2 A P) (hr2 : RdL w 1 eN A2 sh) (hP : PtsOk P) (hS : ShOk sh) : Con Tryz.prog 230 [.slice A P.length c, .func (.func 231) #[] #[ptr gt 0]] w (fun y : Option Addr × Nat × Items => Own 2 261 eP2 (rd P sh) (.slice y.1 (rd P sh).length y.2.1) y.2.2)
    (fun y => .slice y.1 (rd P sh).length y.2.1) (fun y => y.2.2) := by
  have hpl := hP.1
  have hIl : (rI P sh).length = P.length := by unfold rI; rw [List.length_map, wal_len, List.length_map]
  have hOl : (rO P sh).length = P.length := by unfold rO; rw [List.length_map, wal_len, List.length_map]
  refine Ret_of (vs := [_, _]) hm none' Tryz.func230 rfl Tryz.ntmps230 rfl ?_
  dsimp only [slotsOf]
  refine GE_seq ?_
  refine GE_plain (.ld 0 [] (.ld 1 [] (.st 2 .nil))) rfl ?_
  refine GT_box (z := [_]) rfl rfl rfl rfl rfl rfl rfl (fun _ => GR_nil) (fun b2 => ?_)
  refine GT_box (z := [_]) rfl rfl rfl rfl rfl rfl rfl (fun _ => GR_nil) (fun b3 => ?_)
  refine GT_st rfl rfl rfl rfl (V_assign rfl rfl) ?_
  refine GT_nil ?_
  refine GE_seq ?_
  refine GE_plain (.st 0 (.st 1 .nil)) rfl ?_
  refine GT_st rfl rfl rfl rfl (V_makeFunc rfl rfl rfl) ?_
  refine GT_st rfl rfl rfl rfl (V_assign rfl rfl) ?_
  refine GT_nil ?_
  refine GE_seq ?_
  refine GE_slots (L' := [(2, _), (5, _)]) ⟨rfl, rfl, trivial⟩ ?_
  refine GE_plain (.st 0 (.st 1 (.st 2 (.ld 3 [] (.st 4 (.st 5 (.st 6 (.ld 7 [] (.st 8 (.st 9 .nil)))))))))) rfl ?_
  refine GT_st rfl rfl rfl rfl (V_move rfl rfl) ?_
  refine GT_st rfl rfl rfl rfl (V_build (vs := []) rfl rfl zc_457 pl_457 sa_457 rfl) ?_
  refine GT_st rfl rfl rfl rfl (V_mkIface rfl rfl ag_457) ?_
  refine GT_call rfl rfl rfl rfl rfl rfl rfl rfl rn_265 (fun w hw => C_walls1 (P := P) (tE := 457) (fo := 398) (fb := 397) (of := ofO) (bk := bkO) (by kernel_rfl) (by kernel_rfl) ag_457 rn_398 rn_397 (fun w p hp => C_oof) (fun w x hx => C_obk) (BlkAt.of hw) (BlkAt.of hw) (hg.sh hw) (hr.sh hw) (hr2.sh hw) (wok_O hP hS)) (fun _ _ => GR_nil) (fun y hy => ?_)
  refine GT_st rfl rfl rfl rfl (V_move rfl rfl) ?_
  refine GT_st rfl rfl rfl rfl (V_build (vs := []) rfl rfl zc_458 pl_458 sa_458 rfl) ?_
  refine GT_st rfl rfl rfl rfl (V_mkIface rfl rfl ag_458) ?_
  refine GT_call rfl rfl rfl rfl rfl rfl rfl rfl rn_265 (fun w hw => C_walls1 (P := P) (tE := 458) (fo := 400) (fb := 399) (of := ofI) (bk := bkI) (by kernel_rfl) (by kernel_rfl) ag_458 rn_400 rn_399 (fun w p hp => C_iof (hP.2 p hp).1) (fun w x hx => C_ibk hx) (BlkAt.of hw) (BlkAt.of hw) (hg.sh hw) (hr.sh hw) (hr2.sh hw) (wok_I hP hS)) (fun _ _ => GR_nil) (fun z hz => ?_)
  refine GT_st rfl rfl rfl rfl (V_assign rfl rfl) ?_
  refine GT_st rfl rfl rfl rfl (V_assign rfl rfl) ?_
  refine GT_nil ?_
  refine GE_seq ?_
  refine GE_slots (L' := [(2, _), (6, _), (7, _)]) ⟨rfl, rfl, rfl, trivial⟩ ?_
  have hy : Own 1 2 eN (rO P sh) (.slice y.1 P.length y.2.1) y.2.2 := hy; have hz : Own 1 2 eN (rI P sh) (.slice z.1 P.length z.2.1) z.2.2 := hz
  refine GE_plain (.st 0 .nil) rfl ?_
  refine GT_st rfl rfl rfl rfl (V_assign rfl rfl) ?_
  refine GT_nil ?_
  refine GE_seq ?_
  refine GE_seq ?_
  refine GE_plain (.st 0 (.st 1 (.st 2 .nil))) rfl ?_
  refine GT_st rfl rfl rfl rfl (V_load rfl rfl ag_255 (CellAt.item rfl)) ?_
  refine GT_st rfl rfl rfl rfl (V_len rfl Tryz.underlying255 rfl) ?_
  refine GT_st rfl rfl rfl rfl (V_move rfl rfl) ?_
  refine GT_nil ?_
  refine GE_block ?_
  refine GE_to (GE_loop (ι := Nat × (Option Addr × Nat × Items)) (fun v => P.length - v.1) (fun v => [(6, .slice y.1 P.length y.2.1), (7, .slice z.1 P.length z.2.1), (8, .slice v.2.1 ((List.range v.1).map (rdi P sh)).length v.2.2.1), (20, I P.length), (21, I v.1)]) (fun v => v.2.2.2 ++ (y.2.2 ++ z.2.2)) (fun v => v.1 ≤ P.length ∧ Own 2 261 eP2 ((List.range v.1).map (rdi P sh)) (.slice v.2.1 ((List.range v.1).map (rdi P sh)).length v.2.2.1) v.2.2.2) ?_ (0, (none, 0, [])) ?_) ⟨rfl, rfl, rfl, rfl, rfl, trivial⟩ (HS.chunk (I := []) (HS.chunk HS.last))
  · rintro ⟨k, u⟩ ⟨hk, hO⟩ ih; dsimp only at hk hO ih ⊢
    refine GE_seq ?_
    refine GE_plain (.st 0 .nil) rfl ?_
    refine GT_st rfl rfl rfl rfl (V_lss rfl rfl rfl) ?_
    refine GT_nil ?_
    refine GE_seq ?_
    first | refine GE_condNot rfl (fun q1 => ?_) (fun q1 => ?_) | refine GE_cond rfl (fun q1 => ?_) (fun q1 => ?_) | refine GE_condNotB rfl (fun q1 => ?_) (fun q1 => ?_) | refine GE_condB rfl (fun q1 => ?_) (fun q1 => ?_)
    · have hkl : k < P.length := (by omega); have hrl : ((List.range k).map (rdi P sh)).length = k := (by simp)
      refine GE_skip ?_
      refine GE_seq ?_
      refine GE_block ?_
      refine GE_seq ?_
      refine GE_plain (.st 0 (.st 1 .nil)) rfl ?_
      refine GT_st rfl rfl rfl rfl (V_move rfl rfl) ?_
      refine GT_st rfl rfl rfl rfl (V_assign rfl rfl) ?_
      refine GT_nil ?_
      refine GE_drawn (.st 0 (.st 1 (.st 2 (.st 3 (.st 4 (.st 5 (.st 6 (.st 7 (.st 8 (.st 9 (.ld 10 [0] (.ld 11 [] (.ld 12 [] .nil))))))))))))) [10, 11, 12] (by decide +kernel) ?_
      refine GT_st rfl rfl rfl rfl (V_move rfl rfl) ?_
      refine GT_st rfl rfl rfl rfl (V_move rfl rfl) ?_
      refine GT_st rfl rfl rfl rfl (V_move rfl rfl) ?_
      refine GT_st rfl rfl rfl rfl (V_index rfl rfl rfl Tryz.underlying43 sz_2 (k := k) rfl hkl (hz.isSome (k := k) (by omega))) ?_
      refine GT_st rfl rfl rfl rfl (V_load rfl rfl ag_2 (CellAt.own0 (k := k) hz eN_len (by omega) rfl)) ?_
      refine GT_st rfl rfl rfl rfl (V_move rfl rfl) ?_
      refine GT_st rfl rfl rfl rfl (V_move rfl rfl) ?_
      refine GT_st rfl rfl rfl rfl (V_index rfl rfl rfl Tryz.underlying43 sz_2 (k := k) rfl hkl (hy.isSome (k := k) (by omega))) ?_
      refine GT_st rfl rfl rfl rfl (V_load rfl rfl ag_2 (CellAt.own0 (k := k) hy eN_len (by omega) rfl)) ?_
      refine GT_st rfl rfl rfl rfl (V_build (vs := [_, _]) rfl rfl zc_261 pl_261 sa_261 rfl) ?_
      refine GT_buildSlice (z := [_, _]) rfl rfl rfl rfl rfl Tryz.underlying255 zc_261 sz_261 (by decide) rfl rfl (fun _ => GR_cons rfl rfl rfl rfl (V_move rfl rfl) (GR_nil)) (fun b34 => ?_)
      refine GT_append (enc := eP2) (l := (List.range k).map (rdi P sh)) (m := [rdi P sh k]) rfl rfl rfl rfl rfl rfl rfl hO (fun w m => RdL.own' m eP2_len) Tryz.underlying255 zc_261 sz_261 ⟨rfl, by decide⟩ by_261 ⟨by rw [hrl]; simp only [List.length_singleton]; omega, by rw [hrl]; simp only [List.length_singleton]; omega⟩ eP2_len eP2_one (fun _ _ _ _ => GR_nil) (fun A3 c3 I3 hO3 => ?_)
      refine GT_ldv rfl rfl rfl rfl rfl (V_assign rfl rfl) (GR_nil) ?_
      refine GT_nil ?_
      refine GE_inBlock ?_
      refine GE_slots (L' := [(6, _), (7, _), (8, _), (20, _), (21, _)]) ⟨rfl, rfl, rfl, rfl, rfl, trivial⟩ ?_
      refine GE_plain (.st 0 (.ld 1 [] .nil)) rfl ?_
      refine GT_st rfl rfl rfl rfl (V_add rfl rfl rfl (wrap_i64 (by omega))) ?_
      refine GT_ldv rfl rfl rfl rfl rfl (V_move rfl rfl) (GR_nil) ?_
      refine GT_nil ?_
      exact GE_to (ih (k + 1, (A3, c3, I3)) ⟨by dsimp only; omega, by dsimp only; rw [List.range_succ, List.map_append]; exact hO3⟩ (by dsimp only; omega)) ⟨rfl, rfl, by dsimp only; rw [List.range_succ, List.map_append]; rfl, rfl, rfl, trivial⟩ (HS.chunk (HS.chunk HS.last))
    · obtain rfl : k = P.length := (by omega)
      refine GE_exit rfl ?_
      refine GE_seq ?_
      refine GE_slots (L' := [(8, _)]) ⟨rfl, trivial⟩ ?_
      refine GE_plain (.st 0 (.st 1 .nil)) rfl ?_
      refine GT_st rfl rfl rfl rfl (V_move rfl rfl) ?_
      refine GT_st rfl rfl rfl rfl (V_assign rfl rfl) ?_
      refine GT_nil ?_
      refine GE_ret Tryz.func230 rfl (fun w hw => ?_)
      exact ⟨u, hO, rfl, hw.hs (C := cx Tryz.prog hm 0 0 _ none' fun _ _ => True) HS.last⟩
  · exact ⟨Nat.zero_le _, Own.nil⟩
end
end Go.Proofs.YtpbflnfcgcldkaaGreatDoor.Ply
/- Read, on the example, walked. -/
namespace Go.Proofs.YtpbflnfcgcldkaaGreatDoor.Ply
open Go.Sx Go.Proofs Go.RowKit
open Side (eN eN_len eN_one getD_memT sh_trans eP2 eP2_len eP2_one)
def s6 : List Int := [0, 2, 10]
def r6 : List (Int × Int) := [(-100, 92), (-97, 90), (-95, 92)]
theorem rd6 : rd p6 s6 = r6 := by kernel_rfl
theorem p6_ok : PtsOk p6 := ⟨by decide, fun p hp => by simp only [p6, List.mem_cons, List.not_mem_nil, or_false] at hp; rcases hp with rfl | rfl | rfl <;> decide⟩
theorem s6_ok : ShOk s6 := ⟨by decide, fun p hp => by simp only [s6, List.mem_cons, List.not_mem_nil, or_false] at hp; rcases hp with rfl | rfl | rfl <;> decide⟩
section
variable {w : World} {A A2 : Option Addr} {c c2 gt : Nat} {sh : List Int} {P : List (Int × Int)}
theorem C_read (hr : RdL w 2 eP2 A P) (hr2 : RdL w 1 eN A2 sh) (hP : PtsOk P) (hS : ShOk sh) : Con Tryz.prog 170 [.agg #[.slice A2 sh.length c2], .slice A P.length c] w (fun y : Option Addr × Nat × Items => Own 2 261 eP2 (rd P sh) (.slice y.1 (rd P sh).length y.2.1) y.2.2)
    (fun y => .slice y.1 (rd P sh).length y.2.1) (fun y => y.2.2) := by
  refine Ret_of (vs := [_, _]) hm none' Tryz.func170 rfl Tryz.ntmps170 rfl ?_
  dsimp only [slotsOf]
  refine GE_seq ?_
  refine GE_plain (.ld 0 [] (.st 1 .nil)) rfl ?_
  refine GT_box (z := [_]) rfl rfl rfl rfl rfl rfl rfl (fun _ => GR_nil) (fun b2 => ?_)
  refine GT_st rfl rfl rfl rfl (V_assign rfl rfl) ?_
  refine GT_nil ?_
  refine GE_seq ?_
  refine GE_plain (.st 0 (.st 1 (.ld 2 [] (.st 3 .nil)))) rfl ?_
  refine GT_st rfl rfl rfl rfl (V_move rfl rfl) ?_
  refine GT_st rfl rfl rfl rfl (V_makeFunc rfl rfl rfl) ?_
  refine GT_call rfl rfl rfl rfl rfl rfl rfl rfl rn_230 (fun w hw => C_walls (BlkAt.of hw) (hr.sh hw) (hr2.sh hw) hP hS) (fun _ _ => GR_nil) (fun y hy => ?_)
  refine GT_st rfl rfl rfl rfl (V_assign rfl rfl) ?_
  refine GT_nil ?_
  refine GE_ret Tryz.func170 rfl (fun w hw => ?_)
  exact ⟨y, hy, rfl, hw.hs (C := cx Tryz.prog hm 0 0 _ none' fun _ _ => True) HS.last⟩
theorem s6_at {k : Nat} (hk : k < 3) : (0 ≤ s6.getD k default ∧ s6.getD k default ≤ 4194304) ∧ (k = 0 → s6.getD k default = 0) ∧ (0 < k → s6.getD (k - 1) default ≤ s6.getD k default) := by
  rcases (show k = 0 ∨ k = 1 ∨ k = 2 by omega) with rfl | rfl | rfl <;> decide
theorem C_CheckTip6 (hr : RdL w 1 eN A2 s6) : Con0 Tryz.prog 229 [.agg #[.slice A2 3 c2]] w (I 0) := by
  refine Ret_of (vs := [_]) hm none' Tryz.func229 rfl Tryz.ntmps229 rfl ?_
  dsimp only [slotsOf]
  refine GE_seq ?_
  refine GE_plain (.ld 0 [] (.st 1 .nil)) rfl ?_
  refine GT_box (z := [_]) rfl rfl rfl rfl rfl rfl rfl (fun _ => GR_nil) (fun b1 => ?_)
  refine GT_st rfl rfl rfl rfl (V_assign rfl rfl) ?_
  refine GT_nil ?_
  refine GE_seq ?_
  refine GE_seq ?_
  refine GE_plain (.st 0 (.st 1 (.st 2 (.st 3 (.st 4 (.st 5 (.st 6 (.st 7 (.st 8 (.st 9 .nil)))))))))) rfl ?_
  first | refine GT_st rfl rfl rfl rfl (V_field rfl rfl fo_259_0) ?_ | refine GT_st rfl rfl rfl rfl (V_fieldA rfl rfl fo_259_0) ?_
  refine GT_st rfl rfl rfl rfl (V_load rfl rfl ag_43 (CellAt.item rfl)) ?_
  refine GT_st rfl rfl rfl rfl (V_len rfl Tryz.underlying43 rfl) ?_
  refine GT_st rfl rfl rfl rfl (V_isF (V_eql rfl rfl rfl) (by decide)) ?_
  refine GT_st rfl rfl rfl rfl (V_move rfl rfl) ?_
  first | refine GT_st_g rfl rfl rfl rfl rfl rfl rfl (V_field rfl rfl fo_259_0) ?_ | refine GT_st_g rfl rfl rfl rfl rfl rfl rfl (V_fieldA rfl rfl fo_259_0) ?_
  refine GT_st_g rfl rfl rfl rfl rfl rfl rfl (V_load rfl rfl ag_43 (CellAt.item rfl)) ?_
  refine GT_st_g rfl rfl rfl rfl rfl rfl rfl (V_len rfl Tryz.underlying43 rfl) ?_
  refine GT_st_g rfl rfl rfl rfl rfl rfl rfl (V_isF (V_gtr rfl rfl rfl) (by decide)) ?_
  refine GT_st rfl rfl rfl rfl (V_pick_f rfl rfl rfl) ?_
  refine GT_nil ?_
  refine GE_cond_f rfl ?_
  refine GE_skip ?_
  refine GE_seq ?_
  refine GE_slots (L' := [(1, _)]) ⟨rfl, trivial⟩ ?_
  refine GE_plain (.st 0 .nil) rfl ?_
  refine GT_st rfl rfl rfl rfl (V_assign rfl rfl) ?_
  refine GT_nil ?_
  refine GE_seq ?_
  refine GE_seq ?_
  refine GE_plain (.st 0 (.st 1 (.st 2 (.st 3 .nil)))) rfl ?_
  first | refine GT_st rfl rfl rfl rfl (V_field rfl rfl fo_259_0) ?_ | refine GT_st rfl rfl rfl rfl (V_fieldA rfl rfl fo_259_0) ?_
  refine GT_st rfl rfl rfl rfl (V_load rfl rfl ag_43 (CellAt.item rfl)) ?_
  refine GT_st rfl rfl rfl rfl (V_len rfl Tryz.underlying43 rfl) ?_
  refine GT_st rfl rfl rfl rfl (V_move rfl rfl) ?_
  refine GT_nil ?_
  refine GE_block ?_
  refine GE_to (GE_loop (ι := Nat) (fun k => 3 - k) (fun k => [(3, I (if k = 0 then 0 else s6.getD (k - 1) default)), (17, .slice A2 3 c2), (18, I 3), (19, I k)]) (fun k => []) (fun k => k ≤ 3) ?_ 0 ?_) ⟨rfl, rfl, rfl, rfl, trivial⟩ HS.nil
  · intro k hk ih
    refine GE_seq ?_
    refine GE_plain (.st 0 .nil) rfl ?_
    refine GT_st rfl rfl rfl rfl (V_lss rfl rfl rfl) ?_
    refine GT_nil ?_
    refine GE_seq ?_
    first | refine GE_condNot rfl (fun q1 => ?_) (fun q1 => ?_) | refine GE_cond rfl (fun q1 => ?_) (fun q1 => ?_) | refine GE_condNotB rfl (fun q1 => ?_) (fun q1 => ?_) | refine GE_condB rfl (fun q1 => ?_) (fun q1 => ?_)
    · have hk3 : k < 3 := (by omega); have hkl : k < s6.length := hk3; obtain ⟨hs1, hs2, hs3⟩ := s6_at hk3
      refine GE_skip ?_
      refine GE_seq ?_
      refine GE_block ?_
      refine GE_seq ?_
      refine GE_plain (.st 0 (.st 1 (.st 2 (.st 3 (.st 4 .nil))))) rfl ?_
      refine GT_st rfl rfl rfl rfl (V_move rfl rfl) ?_
      refine GT_st rfl rfl rfl rfl (V_index rfl rfl rfl Tryz.underlying43 sz_2 (k := k) rfl hk3 (hr.isSome hkl)) ?_
      refine GT_st rfl rfl rfl rfl (V_load rfl rfl ag_2 (hr.at0 noM hkl rfl)) ?_
      refine GT_st rfl rfl rfl rfl (V_assign rfl rfl) ?_
      refine GT_st rfl rfl rfl rfl (V_assign rfl rfl) ?_
      refine GT_nil ?_
      refine GE_seq ?_
      refine GE_seq ?_
      refine GE_slots (L' := [(3, _), (4, _), (5, _), (17, _), (18, _), (19, _)]) ⟨rfl, rfl, rfl, rfl, rfl, rfl, trivial⟩ ?_
      refine GE_plain (.st 0 (.st 1 (.st 2 (.st 3 (.st 4 (.st 5 (.st 6 (.st 7 (.st 8 (.st 9 (.st 10 (.st 11 (.st 12 (.st 13 (.st 14 .nil))))))))))))))) rfl ?_
      refine GT_st rfl rfl rfl rfl (V_move rfl rfl) ?_
      refine GT_st rfl rfl rfl rfl (V_move rfl rfl) ?_
      refine GT_st rfl rfl rfl rfl (V_isF (V_lss rfl rfl rfl) (by split; omega; rename_i e; have := hs3 (by omega); omega)) ?_
      refine GT_st rfl rfl rfl rfl (V_move rfl rfl) ?_
      refine GT_st_g rfl rfl rfl rfl rfl rfl rfl (V_move rfl rfl) ?_
      refine GT_st_g rfl rfl rfl rfl rfl rfl rfl (V_isF (V_gtr rfl rfl rfl) (by omega)) ?_
      refine GT_st rfl rfl rfl rfl (V_pick_f rfl rfl rfl) ?_
      refine GT_st rfl rfl rfl rfl (V_move rfl rfl) ?_
      refine GT_st_g rfl rfl rfl rfl rfl rfl rfl (V_move rfl rfl) ?_
      refine GT_st_g rfl rfl rfl rfl rfl rfl rfl (V_eql rfl rfl rfl) ?_
      refine GT_st_g rfl rfl rfl rfl rfl rfl rfl (V_move rfl rfl) ?_
      first | refine GT_splitNot (d := 34) rfl (fun q2 => ?_) (fun q2 => ?_) | refine GT_split (d := 34) rfl (fun q2 => ?_) (fun q2 => ?_) | refine GT_splitNotB (d := 34) rfl (fun q2 => ?_) (fun q2 => ?_) | refine GT_splitB (d := 34) rfl (fun q2 => ?_) (fun q2 => ?_)
      · skip
        refine GT_st_g rfl rfl rfl rfl rfl rfl rfl (V_move rfl rfl) ?_
        refine GT_st_g rfl rfl rfl rfl rfl rfl rfl (V_isF (V_neq rfl rfl rfl) (by have := hs2 (by omega); omega)) ?_
        refine GT_st_g rfl rfl rfl rfl rfl rfl rfl (V_pick_t rfl rfl rfl) ?_
        refine GT_st rfl rfl rfl rfl (V_pick_f rfl rfl rfl) ?_
        refine GT_nil ?_
        refine GE_cond_f rfl ?_
        refine GE_skip ?_
        refine GE_slots (L' := [(5, _), (17, _), (18, _), (19, _), (28, _), (29, _), (32, _), (33, _), (34, _), (35, _), (36, _), (37, _)]) ⟨rfl, rfl, rfl, rfl, rfl, rfl, rfl, rfl, rfl, rfl, rfl, rfl, trivial⟩ ?_
        refine GE_plain (.st 0 (.st 1 .nil)) rfl ?_
        refine GT_st rfl rfl rfl rfl (V_move rfl rfl) ?_
        refine GT_st rfl rfl rfl rfl (V_assign rfl rfl) ?_
        refine GT_nil ?_
        refine GE_inBlock ?_
        refine GE_plain (.st 0 (.ld 1 [] .nil)) rfl ?_
        refine GT_st rfl rfl rfl rfl (V_add rfl rfl rfl (wrap_i64 (by omega))) ?_
        refine GT_ldv rfl rfl rfl rfl rfl (V_move rfl rfl) (GR_nil) ?_
        refine GT_nil ?_
        exact GE_to (ih (k + 1) (by omega) (by omega)) ⟨rfl, rfl, rfl, rfl, trivial⟩ HS.nil
      · skip
        refine GT_skip rfl rfl rfl rfl rfl (by decide) rfl rfl ?_
        refine GT_skip rfl rfl rfl rfl rfl (by decide) rfl rfl ?_
        refine GT_st_g rfl rfl rfl rfl rfl rfl rfl (V_pick_f rfl rfl rfl) ?_
        refine GT_st rfl rfl rfl rfl (V_pick_f rfl rfl rfl) ?_
        refine GT_nil ?_
        refine GE_cond_f rfl ?_
        refine GE_skip ?_
        refine GE_slots (L' := [(5, _), (17, _), (18, _), (19, _), (28, _), (29, _), (32, _), (33, _), (34, _), (35, _), (36, _), (37, _)]) ⟨rfl, rfl, rfl, rfl, rfl, rfl, rfl, rfl, rfl, rfl, rfl, rfl, trivial⟩ ?_
        refine GE_plain (.st 0 (.st 1 .nil)) rfl ?_
        refine GT_st rfl rfl rfl rfl (V_move rfl rfl) ?_
        refine GT_st rfl rfl rfl rfl (V_assign rfl rfl) ?_
        refine GT_nil ?_
        refine GE_inBlock ?_
        refine GE_plain (.st 0 (.ld 1 [] .nil)) rfl ?_
        refine GT_st rfl rfl rfl rfl (V_add rfl rfl rfl (wrap_i64 (by omega))) ?_
        refine GT_ldv rfl rfl rfl rfl rfl (V_move rfl rfl) (GR_nil) ?_
        refine GT_nil ?_
        exact GE_to (ih (k + 1) (by omega) (by omega)) ⟨rfl, rfl, rfl, rfl, trivial⟩ HS.nil
    · skip
      refine GE_exit rfl ?_
      refine GE_seq ?_
      refine GE_slots (L' := []) trivial ?_
      refine GE_plain (.st 0 .nil) rfl ?_
      refine GT_st rfl rfl rfl rfl (V_assign rfl rfl) ?_
      refine GT_nil ?_
      refine GE_ret Tryz.func229 rfl (fun w hw => ⟨?_, hw.nil⟩)
      rfl
  · exact Nat.zero_le _
theorem C_check6 (hr2 : RdL w 1 eN A2 s6) (hr : RdL w 2 eP2 A p6) : Con0 Tryz.prog 169 [.agg #[.slice A2 3 c2], .slice A 3 c] w (I 0) := by
  refine Ret_of (vs := [_, _]) hm none' Tryz.func169 rfl Tryz.ntmps169 rfl ?_
  dsimp only [slotsOf]
  refine GE_seq ?_
  refine GE_plain (.ld 0 [] (.st 1 .nil)) rfl ?_
  refine GT_box (z := [_]) rfl rfl rfl rfl rfl rfl rfl (fun _ => GR_nil) (fun b2 => ?_)
  refine GT_st rfl rfl rfl rfl (V_assign rfl rfl) ?_
  refine GT_nil ?_
  refine GE_seq ?_
  refine GE_seq ?_
  refine GE_plain (.st 0 (.ld 1 [] (.st 2 .nil))) rfl ?_
  refine GT_st rfl rfl rfl rfl (V_loadN (vs := [_]) rfl rfl ag_259 sz_259 rfl (CellsAt.item rfl)) ?_
  refine GT_call0 rfl rfl rfl rfl rfl rfl rfl rfl rn_229 (fun w hw => C_CheckTip6 (hr2.sh hw)) (GR_nil) ?_
  refine GT_st rfl rfl rfl rfl (V_assign rfl rfl) ?_
  refine GT_nil ?_
  refine GE_seq ?_
  refine GE_slots (L' := [(1, _), (5, _)]) ⟨rfl, rfl, trivial⟩ ?_
  refine GE_plain (.st 0 (.st 1 .nil)) rfl ?_
  refine GT_st rfl rfl rfl rfl (V_move rfl rfl) ?_
  refine GT_st rfl rfl rfl rfl (V_isF (V_neq rfl rfl rfl) (fun q => q rfl)) ?_
  refine GT_nil ?_
  refine GE_cond_f rfl ?_
  refine GE_skip ?_
  refine GE_seq ?_
  refine GE_plain (.st 0 (.ld 1 [] (.st 2 .nil))) rfl ?_
  refine GT_st rfl rfl rfl rfl (V_move rfl rfl) ?_
  refine GT_call0 rfl rfl rfl rfl rfl rfl rfl rfl rn_191 (fun w hw => C_CheckPts (hr.sh hw)) (GR_nil) ?_
  refine GT_st rfl rfl rfl rfl (V_assign rfl rfl) ?_
  refine GT_nil ?_
  refine GE_ret Tryz.func169 rfl (fun w hw => ⟨?_, hw.nil⟩)
  rfl
theorem C_read6 (hr : RdL w 2 eP2 A p6) (hr2 : RdL w 1 eN A2 s6) : Con Tryz.prog 170 [.agg #[.slice A2 3 c2], .slice A 3 c] w (fun y : Option Addr × Nat × Items => Own 2 261 eP2 r6 (.slice y.1 3 y.2.1) y.2.2) (fun y => .slice y.1 3 y.2.1) (fun y => y.2.2) := by
  have h := C_read (c := c) (c2 := c2) hr hr2 p6_ok s6_ok
  rw [rd6] at h
  exact h
theorem C_Read6 (hr : RdL w 2 eP2 A p6) (hr2 : RdL w 1 eN A2 s6) : Con Tryz.prog 112 [.agg #[.slice A2 3 c2], .slice A 3 c] w (fun y : Option Addr × Nat × Items => Own 2 261 eP2 r6 (.slice y.1 3 y.2.1) y.2.2) (fun y => .tuple #[.slice y.1 3 y.2.1, I 0]) (fun y => y.2.2) := by
  refine Ret_of (vs := [_, _]) hm none' Tryz.func112 rfl Tryz.ntmps112 rfl ?_
  dsimp only [slotsOf]
  refine GE_seq ?_
  refine GE_plain (.ld 0 [] (.st 1 (.st 2 .nil))) rfl ?_
  refine GT_box (z := [_]) rfl rfl rfl rfl rfl rfl rfl (fun _ => GR_nil) (fun b2 => ?_)
  refine GT_st rfl rfl rfl rfl (V_assign rfl rfl) ?_
  refine GT_st rfl rfl rfl rfl (V_assign rfl rfl) ?_
  refine GT_nil ?_
  refine GE_seq ?_
  refine GE_seq ?_
  refine GE_plain (.st 0 (.st 1 (.ld 2 [] (.st 3 .nil)))) rfl ?_
  refine GT_st rfl rfl rfl rfl (V_loadN (vs := [_]) rfl rfl ag_259 sz_259 rfl (CellsAt.item rfl)) ?_
  refine GT_st rfl rfl rfl rfl (V_move rfl rfl) ?_
  refine GT_call0 rfl rfl rfl rfl rfl rfl rfl rfl rn_169 (fun w hw => C_check6 (hr2.sh hw) (hr.sh hw)) (GR_nil) ?_
  refine GT_st rfl rfl rfl rfl (V_assign rfl rfl) ?_
  refine GT_nil ?_
  refine GE_seq ?_
  refine GE_slots (L' := [(1, _), (2, _), (6, _)]) ⟨rfl, rfl, rfl, trivial⟩ ?_
  refine GE_plain (.st 0 (.st 1 .nil)) rfl ?_
  refine GT_st rfl rfl rfl rfl (V_move rfl rfl) ?_
  refine GT_st rfl rfl rfl rfl (V_isF (V_neq rfl rfl rfl) (fun q => q rfl)) ?_
  refine GT_nil ?_
  refine GE_cond_f rfl ?_
  refine GE_skip ?_
  refine GE_seq ?_
  refine GE_plain (.st 0 (.st 1 (.ld 2 [] (.st 3 (.st 4 .nil))))) rfl ?_
  refine GT_st rfl rfl rfl rfl (V_loadN (vs := [_]) rfl rfl ag_259 sz_259 rfl (CellsAt.item rfl)) ?_
  refine GT_st rfl rfl rfl rfl (V_move rfl rfl) ?_
  refine GT_call rfl rfl rfl rfl rfl rfl rfl rfl rn_170 (fun w hw => C_read6 (hr.sh hw) (hr2.sh hw)) (fun _ _ => GR_nil) (fun y hy => ?_)
  refine GT_st rfl rfl rfl rfl (V_assign rfl rfl) ?_
  refine GT_st rfl rfl rfl rfl (V_assign rfl rfl) ?_
  refine GT_nil ?_
  refine GE_ret Tryz.func112 ⟨_, _, rfl, rfl, rfl⟩ (fun w hw => ?_)
  exact ⟨y, hy, rfl, hw.hs (C := cx Tryz.prog hm 0 0 _ none' fun _ _ => True) HS.last⟩
end
end Go.Proofs.YtpbflnfcgcldkaaGreatDoor.Ply
/- Presses: ticks, and starts at a boiler, plain and walked. -/
namespace Go.Proofs.YtpbflnfcgcldkaaGreatDoor.Prs
open Go.Sx Go.Proofs Go.RowKit
open Side (eN eN_len eN_one getD_memT sh_trans)
structure Mch where
  room : Int
  melt : Int
  cool : Int
  top : Int
  heat : Int
  chill : Int
  drift : Int
  hold : Int
  life : Int
abbrev Mch.cells (m : Mch) : List Value := [I m.room, I m.melt, I m.cool, I m.top, I m.heat, I m.chill, I m.drift, I m.hold, I m.life]
abbrev Mch.val (m : Mch) : Value := .agg #[I m.room, I m.melt, I m.cool, I m.top, I m.heat, I m.chill, I m.drift, I m.hold, I m.life]
structure Mch.Ok (m : Mch) : Prop where
  room : 0 ≤ m.room ∧ m.room ≤ m.cool
  cool : m.cool < m.melt
  melt : m.melt ≤ m.top
  top : m.top ≤ 400
  heat : 1 ≤ m.heat ∧ m.heat ≤ 400
  chill : 1 ≤ m.chill ∧ m.chill ≤ 400
  drift : 0 ≤ m.drift ∧ m.drift ≤ 400
  hold : 1 ≤ m.hold ∧ m.hold ≤ 64
  life : 1 ≤ m.life ∧ m.life ≤ 65536
def tickM (m : Mch) (t v : Int) : Int := if v = 1 then min m.top (t + m.heat) else if v = 2 then max m.room (t - m.chill) else max m.room (t - m.drift)
section
variable {w : World} {m : Mch}
theorem C_out {n lo hi : Int} (h : lo ≤ n ∧ n ≤ hi) : Con0 Tryz.prog 64 [I n, I lo, I hi] w (.bool false) := by
  refine Ret_of (vs := [_, _, _]) hm none' Tryz.func64 rfl Tryz.ntmps64 rfl ?_
  dsimp only [slotsOf]
  refine GE_seq ?_
  refine GE_plain (.st 0 .nil) rfl ?_
  refine GT_st rfl rfl rfl rfl (V_assign rfl rfl) ?_
  refine GT_nil ?_
  refine GE_seq ?_
  refine GE_plain (.st 0 (.st 1 (.st 2 (.st 3 (.st 4 (.st 5 (.st 6 (.st 7 (.st 8 .nil))))))))) rfl ?_
  refine GT_st rfl rfl rfl rfl (V_move rfl rfl) ?_
  refine GT_st rfl rfl rfl rfl (V_move rfl rfl) ?_
  refine GT_st rfl rfl rfl rfl (V_lss rfl rfl rfl) ?_
  refine GT_st rfl rfl rfl rfl (V_move rfl rfl) ?_
  first | refine GT_splitNot (d := 10) rfl (fun h1 => ?_) (fun h1 => ?_) | refine GT_split (d := 10) rfl (fun h1 => ?_) (fun h1 => ?_) | refine GT_splitNotB (d := 10) rfl (fun h1 => ?_) (fun h1 => ?_) | refine GT_splitB (d := 10) rfl (fun h1 => ?_) (fun h1 => ?_)
  · skip
    refine GT_skip rfl rfl rfl rfl rfl (by decide) rfl rfl ?_
    refine GT_skip rfl rfl rfl rfl rfl (by decide) rfl rfl ?_
    refine GT_skip rfl rfl rfl rfl rfl (by decide) rfl rfl ?_
    refine GT_st rfl rfl rfl rfl (V_pick_t rfl rfl rfl) ?_
    refine GT_st rfl rfl rfl rfl (V_assign rfl rfl) ?_
    refine GT_nil ?_
    refine GE_ret Tryz.func64 rfl (fun w hw => ⟨?_, hw.nil⟩)
    refine congrArg Value.bool ?_; simp; omega
  · skip
    refine GT_st_g rfl rfl rfl rfl rfl rfl rfl (V_move rfl rfl) ?_
    refine GT_st_g rfl rfl rfl rfl rfl rfl rfl (V_move rfl rfl) ?_
    refine GT_st_g rfl rfl rfl rfl rfl rfl rfl (V_gtr rfl rfl rfl) ?_
    refine GT_st rfl rfl rfl rfl (V_pick_f rfl rfl rfl) ?_
    refine GT_st rfl rfl rfl rfl (V_assign rfl rfl) ?_
    refine GT_nil ?_
    refine GE_ret Tryz.func64 rfl (fun w hw => ⟨?_, hw.nil⟩)
    refine congrArg Value.bool ?_; simp; omega
set_option maxRecDepth 20000 in
theorem C_Check (h : m.Ok) : Con0 Tryz.prog 66 [m.val] w (I 0) := by
  obtain ⟨h1, h2, h3, h4, h5, h6, h7, h8, h9⟩ := h
  refine Ret_of (vs := [_]) hm none' Tryz.func66 rfl Tryz.ntmps66 rfl ?_
  dsimp only [slotsOf]
  refine GE_seq ?_
  refine GE_plain (.ld 0 [] (.st 1 .nil)) rfl ?_
  refine GT_box (z := [_, _, _, _, _, _, _, _, _]) rfl rfl rfl rfl rfl rfl rfl (fun _ => GR_nil) (fun b1 => ?_)
  refine GT_st rfl rfl rfl rfl (V_assign rfl rfl) ?_
  refine GT_nil ?_
  refine GE_seq ?_
  refine GE_seq ?_
  refine GE_plain (.st 0 (.st 1 (.st 2 (.st 3 (.st 4 (.st 5 (.st 6 (.st 7 (.st 8 (.st 9 (.st 10 (.st 11 (.st 12 (.st 13 (.st 14 (.st 15 (.st 16 (.st 17 (.st 18 (.st 19 (.st 20 (.st 21 (.st 22 (.st 23 (.st 24 (.st 25 (.st 26 (.st 27 (.st 28 .nil))))))))))))))))))))))))))))) rfl ?_
  first | refine GT_st rfl rfl rfl rfl (V_field rfl rfl fo_58_0) ?_ | refine GT_st rfl rfl rfl rfl (V_fieldA rfl rfl fo_58_0) ?_
  refine GT_st rfl rfl rfl rfl (V_load rfl rfl ag_2 (CellAt.item rfl)) ?_
  refine GT_st rfl rfl rfl rfl (V_isF (V_lss rfl rfl rfl) (by omega)) ?_
  refine GT_st rfl rfl rfl rfl (V_move rfl rfl) ?_
  first | refine GT_st_g rfl rfl rfl rfl rfl rfl rfl (V_field rfl rfl fo_58_0) ?_ | refine GT_st_g rfl rfl rfl rfl rfl rfl rfl (V_fieldA rfl rfl fo_58_0) ?_
  refine GT_st_g rfl rfl rfl rfl rfl rfl rfl (V_load rfl rfl ag_2 (CellAt.item rfl)) ?_
  first | refine GT_st_g rfl rfl rfl rfl rfl rfl rfl (V_field rfl rfl fo_58_2) ?_ | refine GT_st_g rfl rfl rfl rfl rfl rfl rfl (V_fieldA rfl rfl fo_58_2) ?_
  refine GT_st_g rfl rfl rfl rfl rfl rfl rfl (V_load rfl rfl ag_2 (CellAt.item rfl)) ?_
  refine GT_st_g rfl rfl rfl rfl rfl rfl rfl (V_isF (V_gtr rfl rfl rfl) (by omega)) ?_
  refine GT_st rfl rfl rfl rfl (V_pick_f rfl rfl rfl) ?_
  refine GT_st rfl rfl rfl rfl (V_move rfl rfl) ?_
  first | refine GT_st_g rfl rfl rfl rfl rfl rfl rfl (V_field rfl rfl fo_58_2) ?_ | refine GT_st_g rfl rfl rfl rfl rfl rfl rfl (V_fieldA rfl rfl fo_58_2) ?_
  refine GT_st_g rfl rfl rfl rfl rfl rfl rfl (V_load rfl rfl ag_2 (CellAt.item rfl)) ?_
  first | refine GT_st_g rfl rfl rfl rfl rfl rfl rfl (V_field rfl rfl fo_58_1) ?_ | refine GT_st_g rfl rfl rfl rfl rfl rfl rfl (V_fieldA rfl rfl fo_58_1) ?_
  refine GT_st_g rfl rfl rfl rfl rfl rfl rfl (V_load rfl rfl ag_2 (CellAt.item rfl)) ?_
  refine GT_st_g rfl rfl rfl rfl rfl rfl rfl (V_isF (V_geq rfl rfl rfl) (by omega)) ?_
  refine GT_st rfl rfl rfl rfl (V_pick_f rfl rfl rfl) ?_
  refine GT_st rfl rfl rfl rfl (V_move rfl rfl) ?_
  first | refine GT_st_g rfl rfl rfl rfl rfl rfl rfl (V_field rfl rfl fo_58_1) ?_ | refine GT_st_g rfl rfl rfl rfl rfl rfl rfl (V_fieldA rfl rfl fo_58_1) ?_
  refine GT_st_g rfl rfl rfl rfl rfl rfl rfl (V_load rfl rfl ag_2 (CellAt.item rfl)) ?_
  first | refine GT_st_g rfl rfl rfl rfl rfl rfl rfl (V_field rfl rfl fo_58_3) ?_ | refine GT_st_g rfl rfl rfl rfl rfl rfl rfl (V_fieldA rfl rfl fo_58_3) ?_
  refine GT_st_g rfl rfl rfl rfl rfl rfl rfl (V_load rfl rfl ag_2 (CellAt.item rfl)) ?_
  refine GT_st_g rfl rfl rfl rfl rfl rfl rfl (V_isF (V_gtr rfl rfl rfl) (by omega)) ?_
  refine GT_st rfl rfl rfl rfl (V_pick_f rfl rfl rfl) ?_
  refine GT_st rfl rfl rfl rfl (V_move rfl rfl) ?_
  first | refine GT_st_g rfl rfl rfl rfl rfl rfl rfl (V_field rfl rfl fo_58_3) ?_ | refine GT_st_g rfl rfl rfl rfl rfl rfl rfl (V_fieldA rfl rfl fo_58_3) ?_
  refine GT_st_g rfl rfl rfl rfl rfl rfl rfl (V_load rfl rfl ag_2 (CellAt.item rfl)) ?_
  refine GT_st_g rfl rfl rfl rfl rfl rfl rfl (V_isF (V_gtr rfl rfl rfl) (by omega)) ?_
  refine GT_st rfl rfl rfl rfl (V_pick_f rfl rfl rfl) ?_
  refine GT_nil ?_
  refine GE_cond_f rfl ?_
  refine GE_skip ?_
  refine GE_seq ?_
  refine GE_seq ?_
  refine GE_slots (L' := [(1, _)]) ⟨rfl, trivial⟩ ?_
  refine GE_plain (.st 0 (.st 1 (.ld 2 [] (.st 3 (.st 4 (.st 5 (.ld 6 [] (.st 7 (.st 8 (.st 9 (.st 10 (.ld 11 [] (.st 12 (.st 13 (.st 14 (.st 15 (.ld 16 [] (.st 17 (.st 18 (.st 19 (.st 20 (.ld 21 [] (.st 22 .nil))))))))))))))))))))))) rfl ?_
  first | refine GT_st rfl rfl rfl rfl (V_field rfl rfl fo_58_4) ?_ | refine GT_st rfl rfl rfl rfl (V_fieldA rfl rfl fo_58_4) ?_
  refine GT_st rfl rfl rfl rfl (V_load rfl rfl ag_2 (CellAt.item rfl)) ?_
  refine GT_call0 rfl rfl rfl rfl rfl rfl rfl rfl rn_64 (fun w hw => C_out h5) (GR_nil) ?_
  refine GT_st rfl rfl rfl rfl (V_move rfl rfl) ?_
  first | refine GT_st_g rfl rfl rfl rfl rfl rfl rfl (V_field rfl rfl fo_58_5) ?_ | refine GT_st_g rfl rfl rfl rfl rfl rfl rfl (V_fieldA rfl rfl fo_58_5) ?_
  refine GT_st_g rfl rfl rfl rfl rfl rfl rfl (V_load rfl rfl ag_2 (CellAt.item rfl)) ?_
  refine GT_call0_g rfl rfl rfl rfl rfl rfl rfl rfl rfl rfl rfl rn_64 (fun w hw => C_out h6) (GR_nil) ?_
  refine GT_st rfl rfl rfl rfl (V_pick_f rfl rfl rfl) ?_
  refine GT_st rfl rfl rfl rfl (V_move rfl rfl) ?_
  first | refine GT_st_g rfl rfl rfl rfl rfl rfl rfl (V_field rfl rfl fo_58_6) ?_ | refine GT_st_g rfl rfl rfl rfl rfl rfl rfl (V_fieldA rfl rfl fo_58_6) ?_
  refine GT_st_g rfl rfl rfl rfl rfl rfl rfl (V_load rfl rfl ag_2 (CellAt.item rfl)) ?_
  refine GT_call0_g rfl rfl rfl rfl rfl rfl rfl rfl rfl rfl rfl rn_64 (fun w hw => C_out h7) (GR_nil) ?_
  refine GT_st rfl rfl rfl rfl (V_pick_f rfl rfl rfl) ?_
  refine GT_st rfl rfl rfl rfl (V_move rfl rfl) ?_
  first | refine GT_st_g rfl rfl rfl rfl rfl rfl rfl (V_field rfl rfl fo_58_7) ?_ | refine GT_st_g rfl rfl rfl rfl rfl rfl rfl (V_fieldA rfl rfl fo_58_7) ?_
  refine GT_st_g rfl rfl rfl rfl rfl rfl rfl (V_load rfl rfl ag_2 (CellAt.item rfl)) ?_
  refine GT_call0_g rfl rfl rfl rfl rfl rfl rfl rfl rfl rfl rfl rn_64 (fun w hw => C_out h8) (GR_nil) ?_
  refine GT_st rfl rfl rfl rfl (V_pick_f rfl rfl rfl) ?_
  refine GT_st rfl rfl rfl rfl (V_move rfl rfl) ?_
  first | refine GT_st_g rfl rfl rfl rfl rfl rfl rfl (V_field rfl rfl fo_58_8) ?_ | refine GT_st_g rfl rfl rfl rfl rfl rfl rfl (V_fieldA rfl rfl fo_58_8) ?_
  refine GT_st_g rfl rfl rfl rfl rfl rfl rfl (V_load rfl rfl ag_2 (CellAt.item rfl)) ?_
  refine GT_call0_g rfl rfl rfl rfl rfl rfl rfl rfl rfl rfl rfl rn_64 (fun w hw => C_out h9) (GR_nil) ?_
  refine GT_st rfl rfl rfl rfl (V_pick_f rfl rfl rfl) ?_
  refine GT_nil ?_
  refine GE_cond_f rfl ?_
  refine GE_skip ?_
  refine GE_seq ?_
  refine GE_slots (L' := []) trivial ?_
  refine GE_plain (.st 0 .nil) rfl ?_
  refine GT_st rfl rfl rfl rfl (V_assign rfl rfl) ?_
  refine GT_nil ?_
  refine GE_ret Tryz.func66 rfl (fun w hw => ⟨?_, hw.nil⟩)
  rfl
theorem C_tick {t v : Int} (h : m.Ok) (ht : m.room ≤ t ∧ t ≤ m.top) : Con0 Tryz.prog 108 [m.val, I t, I v] w (I (tickM m t v)) := by
  obtain ⟨h1, h2, h3, h4, h5, h6, h7, h8, h9⟩ := h
  refine Ret_of (vs := [_, _, _]) hm none' Tryz.func108 rfl Tryz.ntmps108 rfl ?_
  dsimp only [slotsOf]
  refine GE_seq ?_
  refine GE_plain (.ld 0 [] (.st 1 .nil)) rfl ?_
  refine GT_box (z := [_, _, _, _, _, _, _, _, _]) rfl rfl rfl rfl rfl rfl rfl (fun _ => GR_nil) (fun b3 => ?_)
  refine GT_st rfl rfl rfl rfl (V_assign rfl rfl) ?_
  refine GT_nil ?_
  refine GE_seq ?_
  refine GE_seq ?_
  refine GE_plain (.st 0 .nil) rfl ?_
  refine GT_st rfl rfl rfl rfl (V_move rfl rfl) ?_
  refine GT_nil ?_
  refine GE_block ?_
  refine GE_seq ?_
  refine GE_plain (.st 0 (.st 1 .nil)) rfl ?_
  refine GT_st rfl rfl rfl rfl (V_eql rfl rfl rfl) ?_
  refine GT_st rfl rfl rfl rfl (V_assign rfl rfl) ?_
  refine GT_nil ?_
  first | refine GE_condNot rfl (fun q1 => ?_) (fun q1 => ?_) | refine GE_cond rfl (fun q1 => ?_) (fun q1 => ?_) | refine GE_condNotB rfl (fun q1 => ?_) (fun q1 => ?_) | refine GE_condB rfl (fun q1 => ?_) (fun q1 => ?_)
  · skip
    refine GE_seq ?_
    refine GE_slots (L' := [(1, _), (3, _)]) ⟨rfl, rfl, trivial⟩ ?_
    refine GE_plain (.st 0 (.st 1 (.st 2 (.st 3 (.st 4 (.st 5 (.st 6 (.st 7 .nil)))))))) rfl ?_
    first | refine GT_st rfl rfl rfl rfl (V_field rfl rfl fo_58_3) ?_ | refine GT_st rfl rfl rfl rfl (V_fieldA rfl rfl fo_58_3) ?_
    refine GT_st rfl rfl rfl rfl (V_load rfl rfl ag_2 (CellAt.item rfl)) ?_
    refine GT_st rfl rfl rfl rfl (V_move rfl rfl) ?_
    first | refine GT_st rfl rfl rfl rfl (V_field rfl rfl fo_58_4) ?_ | refine GT_st rfl rfl rfl rfl (V_fieldA rfl rfl fo_58_4) ?_
    refine GT_st rfl rfl rfl rfl (V_load rfl rfl ag_2 (CellAt.item rfl)) ?_
    refine GT_st rfl rfl rfl rfl (V_add rfl rfl rfl (wrap_i64 (by omega))) ?_
    refine GT_st rfl rfl rfl rfl (V_min rfl rfl rfl) ?_
    refine GT_st rfl rfl rfl rfl (V_assign rfl rfl) ?_
    refine GT_nil ?_
    refine GE_ret Tryz.func108 rfl (fun w hw => ⟨?_, hw.nil⟩)
    rw [tickM, if_pos q1]
  · skip
    refine GE_seq ?_
    refine GE_slots (L' := [(1, _), (3, _), (7, _)]) ⟨rfl, rfl, rfl, trivial⟩ ?_
    refine GE_plain (.st 0 (.st 1 .nil)) rfl ?_
    refine GT_st rfl rfl rfl rfl (V_eql rfl rfl rfl) ?_
    refine GT_st rfl rfl rfl rfl (V_assign rfl rfl) ?_
    refine GT_nil ?_
    first | refine GE_condNot rfl (fun q2 => ?_) (fun q2 => ?_) | refine GE_cond rfl (fun q2 => ?_) (fun q2 => ?_) | refine GE_condNotB rfl (fun q2 => ?_) (fun q2 => ?_) | refine GE_condB rfl (fun q2 => ?_) (fun q2 => ?_)
    · skip
      refine GE_seq ?_
      refine GE_plain (.st 0 (.st 1 (.st 2 (.st 3 (.st 4 (.st 5 (.st 6 (.st 7 .nil)))))))) rfl ?_
      first | refine GT_st rfl rfl rfl rfl (V_field rfl rfl fo_58_0) ?_ | refine GT_st rfl rfl rfl rfl (V_fieldA rfl rfl fo_58_0) ?_
      refine GT_st rfl rfl rfl rfl (V_load rfl rfl ag_2 (CellAt.item rfl)) ?_
      refine GT_st rfl rfl rfl rfl (V_move rfl rfl) ?_
      first | refine GT_st rfl rfl rfl rfl (V_field rfl rfl fo_58_5) ?_ | refine GT_st rfl rfl rfl rfl (V_fieldA rfl rfl fo_58_5) ?_
      refine GT_st rfl rfl rfl rfl (V_load rfl rfl ag_2 (CellAt.item rfl)) ?_
      refine GT_st rfl rfl rfl rfl (V_sub rfl rfl rfl (wrap_i64 (by omega))) ?_
      refine GT_st rfl rfl rfl rfl (V_max rfl rfl rfl) ?_
      refine GT_st rfl rfl rfl rfl (V_assign rfl rfl) ?_
      refine GT_nil ?_
      refine GE_ret Tryz.func108 rfl (fun w hw => ⟨?_, hw.nil⟩)
      rw [tickM, if_neg q1, if_pos q2]
    · skip
      refine GE_skip ?_
      refine GE_inBlock ?_
      refine GE_seq ?_
      refine GE_plain (.st 0 (.st 1 (.st 2 (.st 3 (.st 4 (.st 5 (.st 6 (.st 7 .nil)))))))) rfl ?_
      first | refine GT_st rfl rfl rfl rfl (V_field rfl rfl fo_58_0) ?_ | refine GT_st rfl rfl rfl rfl (V_fieldA rfl rfl fo_58_0) ?_
      refine GT_st rfl rfl rfl rfl (V_load rfl rfl ag_2 (CellAt.item rfl)) ?_
      refine GT_st rfl rfl rfl rfl (V_move rfl rfl) ?_
      first | refine GT_st rfl rfl rfl rfl (V_field rfl rfl fo_58_6) ?_ | refine GT_st rfl rfl rfl rfl (V_fieldA rfl rfl fo_58_6) ?_
      refine GT_st rfl rfl rfl rfl (V_load rfl rfl ag_2 (CellAt.item rfl)) ?_
      refine GT_st rfl rfl rfl rfl (V_sub rfl rfl rfl (wrap_i64 (by omega))) ?_
      refine GT_st rfl rfl rfl rfl (V_max rfl rfl rfl) ?_
      refine GT_st rfl rfl rfl rfl (V_assign rfl rfl) ?_
      refine GT_nil ?_
      refine GE_ret Tryz.func108 rfl (fun w hw => ⟨?_, hw.nil⟩)
      rw [tickM, if_neg q1, if_neg q2]
theorem C_Tick {t v : Int} (h : m.Ok) (ht : m.room ≤ t ∧ t ≤ m.top) (hv : 0 ≤ v ∧ v ≤ 2) : Con0 Tryz.prog 47 [m.val, I t, I v] w (.tuple #[I (tickM m t v), I 0]) := by
  refine Ret_of (vs := [_, _, _]) hm none' Tryz.func47 rfl Tryz.ntmps47 rfl ?_
  dsimp only [slotsOf]
  refine GE_seq ?_
  refine GE_plain (.ld 0 [] (.st 1 (.st 2 .nil))) rfl ?_
  refine GT_box (z := [_, _, _, _, _, _, _, _, _]) rfl rfl rfl rfl rfl rfl rfl (fun _ => GR_nil) (fun b3 => ?_)
  refine GT_st rfl rfl rfl rfl (V_assign rfl rfl) ?_
  refine GT_st rfl rfl rfl rfl (V_assign rfl rfl) ?_
  refine GT_nil ?_
  refine GE_seq ?_
  refine GE_seq ?_
  refine GE_plain (.st 0 (.ld 1 [] (.st 2 .nil))) rfl ?_
  refine GT_st rfl rfl rfl rfl (V_loadN (vs := [_, _, _, _, _, _, _, _, _]) rfl rfl ag_58 sz_58 rfl (CellsAt.item rfl)) ?_
  refine GT_call0 rfl rfl rfl rfl rfl rfl rfl rfl rn_66 (fun w hw => C_Check h) (GR_nil) ?_
  refine GT_st rfl rfl rfl rfl (V_assign rfl rfl) ?_
  refine GT_nil ?_
  refine GE_seq ?_
  refine GE_slots (L' := [(1, _), (2, _), (3, _), (8, _)]) ⟨rfl, rfl, rfl, rfl, trivial⟩ ?_
  refine GE_plain (.st 0 (.st 1 .nil)) rfl ?_
  refine GT_st rfl rfl rfl rfl (V_move rfl rfl) ?_
  refine GT_st rfl rfl rfl rfl (V_isF (V_neq rfl rfl rfl) (fun q => q rfl)) ?_
  refine GT_nil ?_
  refine GE_cond_f rfl ?_
  refine GE_skip ?_
  refine GE_seq ?_
  refine GE_seq ?_
  refine GE_plain (.st 0 (.st 1 (.st 2 (.st 3 (.st 4 (.ld 5 [] (.st 6 (.st 7 (.ld 8 [] (.st 9 .nil)))))))))) rfl ?_
  refine GT_st rfl rfl rfl rfl (V_move rfl rfl) ?_
  first | refine GT_st rfl rfl rfl rfl (V_field rfl rfl fo_58_0) ?_ | refine GT_st rfl rfl rfl rfl (V_fieldA rfl rfl fo_58_0) ?_
  refine GT_st rfl rfl rfl rfl (V_load rfl rfl ag_2 (CellAt.item rfl)) ?_
  first | refine GT_st rfl rfl rfl rfl (V_field rfl rfl fo_58_3) ?_ | refine GT_st rfl rfl rfl rfl (V_fieldA rfl rfl fo_58_3) ?_
  refine GT_st rfl rfl rfl rfl (V_load rfl rfl ag_2 (CellAt.item rfl)) ?_
  refine GT_call0 rfl rfl rfl rfl rfl rfl rfl rfl rn_64 (fun w hw => C_out ht) (GR_nil) ?_
  refine GT_st rfl rfl rfl rfl (V_move rfl rfl) ?_
  refine GT_st_g rfl rfl rfl rfl rfl rfl rfl (V_move rfl rfl) ?_
  refine GT_call0_g rfl rfl rfl rfl rfl rfl rfl rfl rfl rfl rfl rn_64 (fun w hw => C_out hv) (GR_nil) ?_
  refine GT_st rfl rfl rfl rfl (V_pick_f rfl rfl rfl) ?_
  refine GT_nil ?_
  refine GE_cond_f rfl ?_
  refine GE_skip ?_
  refine GE_seq ?_
  refine GE_slots (L' := [(1, _), (2, _), (3, _)]) ⟨rfl, rfl, rfl, trivial⟩ ?_
  refine GE_plain (.st 0 (.st 1 (.st 2 (.ld 3 [] (.st 4 (.st 5 .nil)))))) rfl ?_
  refine GT_st rfl rfl rfl rfl (V_loadN (vs := [_, _, _, _, _, _, _, _, _]) rfl rfl ag_58 sz_58 rfl (CellsAt.item rfl)) ?_
  refine GT_st rfl rfl rfl rfl (V_move rfl rfl) ?_
  refine GT_st rfl rfl rfl rfl (V_move rfl rfl) ?_
  refine GT_call0 rfl rfl rfl rfl rfl rfl rfl rfl rn_108 (fun w hw => C_tick h ht) (GR_nil) ?_
  refine GT_st rfl rfl rfl rfl (V_assign rfl rfl) ?_
  refine GT_st rfl rfl rfl rfl (V_assign rfl rfl) ?_
  refine GT_nil ?_
  refine GE_ret Tryz.func47 ⟨_, _, rfl, rfl, rfl⟩ (fun w hw => ⟨?_, hw.nil⟩)
  rfl
end
/-! ### starts -/
structure Blr where
  pr : Nat
  pl : Nat
  st : Int
  rs : Int
structure Blr.Ok (b : Blr) : Prop where
  pr : 1 ≤ b.pr ∧ b.pr ≤ 64
  pl : 1 ≤ b.pl ∧ b.pl ≤ 64
  st : 1 ≤ b.st ∧ b.st ≤ 65536
  rs : 1 ≤ b.rs ∧ b.rs ≤ 65536
def ys1 (b : Blr) (l : List Int) (i : Nat) : List (Int × Int) := if b.pl ≤ i then [(l.getD (i - b.pl) default, b.st)] else []
def ys2 (b : Blr) (l : List Int) (i : Nat) : List (Int × Int) := if b.pr ≤ i then [(l.getD (i - b.pr) default, b.st + b.rs)] else []
def ysL (b : Blr) (l : List Int) (i : Nat) : List (Int × Int) := ys1 b l i ++ ys2 b l i
def mxF (t : Int) (ys : List (Int × Int)) : Int := ys.foldl (fun t y => max t (y.1 + y.2)) t
def ini (l : List Int) (i : Nat) : Int := if i = 0 then 0 else l.getD (i - 1) default
def stS (b : Blr) : Nat → List Int
  | 0 => []
  | n + 1 => stS b n ++ [mxF (ini (stS b n) n) (ysL b (stS b n) n)]
theorem stS_len (b : Blr) : ∀ n, (stS b n).length = n
  | 0 => rfl
  | n + 1 => by rw [stS, List.length_append, stS_len b n]; rfl
theorem mxF_app (t : Int) (ys : List (Int × Int)) (y : Int × Int) : mxF t (ys ++ [y]) = max (mxF t ys) (y.1 + y.2) := by unfold mxF; rw [List.foldl_append]; rfl
theorem mxF_bd {B : Int} : ∀ {ys : List (Int × Int)} {t : Int}, (0 ≤ t ∧ t ≤ B) → (∀ y ∈ ys, 0 ≤ y.1 + y.2 ∧ y.1 + y.2 ≤ B) → 0 ≤ mxF t ys ∧ mxF t ys ≤ B
  | [], _, h, _ => h
  | y :: ys, t, h, hy => by
    have h1 := hy y (List.mem_cons_self ..)
    exact mxF_bd (ys := ys) (t := max t (y.1 + y.2)) (by omega) fun z hz => hy z (List.mem_cons_of_mem _ hz)
theorem ys_bd {b : Blr} (hb : b.Ok) {l : List Int} {i : Nat} {B : Int} (hi : i ≤ l.length) (hl : ∀ x ∈ l, 0 ≤ x ∧ x ≤ B) : ∀ y ∈ ysL b l i, (0 ≤ y.1 ∧ y.1 ≤ B) ∧ 1 ≤ y.2 ∧ y.2 ≤ 131072 := by
  obtain ⟨h1, h2, h3, h4⟩ := hb
  intro y hy
  rcases List.mem_append.1 hy with q | q
  · unfold ys1 at q
    split at q
    · rw [List.mem_singleton] at q; subst q
      exact ⟨hl _ (getD_memT (by omega)), by dsimp only; omega⟩
    · cases q
  · unfold ys2 at q
    split at q
    · rw [List.mem_singleton] at q; subst q
      exact ⟨hl _ (getD_memT (by omega)), by dsimp only; omega⟩
    · cases q
theorem ini_bd {l : List Int} {i : Nat} {B : Int} (hi : i ≤ l.length) (h0 : 0 ≤ B) (hl : ∀ x ∈ l, 0 ≤ x ∧ x ≤ B) : 0 ≤ ini l i ∧ ini l i ≤ B := by
  unfold ini
  split
  · omega
  · exact hl _ (getD_memT (by omega))
theorem stS_bd {b : Blr} (hb : b.Ok) : ∀ n, ∀ x ∈ stS b n, 0 ≤ x ∧ x ≤ 131072 * n
  | 0, x, hx => by cases hx
  | n + 1, x, hx => by
    have ih := stS_bd hb n
    have hl := stS_len b n
    rcases List.mem_append.1 hx with q | q
    · have := ih x q; omega
    · rw [List.mem_singleton] at q; subst q
      refine mxF_bd ?_ fun y hy => ?_
      · have := ini_bd (i := n) (by omega) (by omega) ih; omega
      · have := ys_bd hb (i := n) (by omega) ih y hy; omega
section
variable {w w0 : World} {A : Option Addr} {c lp b1 b2 b3 b4 b5 b6 i n : Nat} {b : Blr} {l : List Int}
theorem C_checkBoiler (h : b.Ok) (hn : n ≤ 1000) : Con0 Tryz.prog 130 [I b.pr, I b.pl, I b.st, I b.rs, I n] w (I 0) := by
  obtain ⟨h1, h2, h3, h4⟩ := h
  refine Ret_of (vs := [_, _, _, _, _]) hm none' Tryz.func130 rfl Tryz.ntmps130 rfl ?_
  dsimp only [slotsOf]
  refine GE_seq ?_
  refine GE_plain (.st 0 .nil) rfl ?_
  refine GT_st rfl rfl rfl rfl (V_assign rfl rfl) ?_
  refine GT_nil ?_
  refine GE_seq ?_
  refine GE_seq ?_
  refine GE_plain (.st 0 (.ld 1 [] (.st 2 (.st 3 (.ld 4 [] (.st 5 (.st 6 (.st 7 (.ld 8 [] (.st 9 (.st 10 (.st 11 (.ld 12 [] (.st 13 .nil)))))))))))))) rfl ?_
  refine GT_st rfl rfl rfl rfl (V_move rfl rfl) ?_
  refine GT_call0 rfl rfl rfl rfl rfl rfl rfl rfl rn_64 (fun w hw => C_out (by omega)) (GR_nil) ?_
  refine GT_st rfl rfl rfl rfl (V_move rfl rfl) ?_
  refine GT_st_g rfl rfl rfl rfl rfl rfl rfl (V_move rfl rfl) ?_
  refine GT_call0_g rfl rfl rfl rfl rfl rfl rfl rfl rfl rfl rfl rn_64 (fun w hw => C_out (by omega)) (GR_nil) ?_
  refine GT_st rfl rfl rfl rfl (V_pick_f rfl rfl rfl) ?_
  refine GT_st rfl rfl rfl rfl (V_move rfl rfl) ?_
  refine GT_st_g rfl rfl rfl rfl rfl rfl rfl (V_move rfl rfl) ?_
  refine GT_call0_g rfl rfl rfl rfl rfl rfl rfl rfl rfl rfl rfl rn_64 (fun w hw => C_out h3) (GR_nil) ?_
  refine GT_st rfl rfl rfl rfl (V_pick_f rfl rfl rfl) ?_
  refine GT_st rfl rfl rfl rfl (V_move rfl rfl) ?_
  refine GT_st_g rfl rfl rfl rfl rfl rfl rfl (V_move rfl rfl) ?_
  refine GT_call0_g rfl rfl rfl rfl rfl rfl rfl rfl rfl rfl rfl rn_64 (fun w hw => C_out h4) (GR_nil) ?_
  refine GT_st rfl rfl rfl rfl (V_pick_f rfl rfl rfl) ?_
  refine GT_nil ?_
  refine GE_cond_f rfl ?_
  refine GE_skip ?_
  refine GE_seq ?_
  refine GE_seq ?_
  refine GE_slots (L' := [(4, _)]) ⟨rfl, trivial⟩ ?_
  refine GE_plain (.st 0 (.ld 1 [] .nil)) rfl ?_
  refine GT_st rfl rfl rfl rfl (V_move rfl rfl) ?_
  refine GT_call0 rfl rfl rfl rfl rfl rfl rfl rfl rn_64 (fun w hw => C_out (by omega)) (GR_nil) ?_
  refine GT_nil ?_
  refine GE_cond_f rfl ?_
  refine GE_skip ?_
  refine GE_seq ?_
  refine GE_plain (.st 0 .nil) rfl ?_
  refine GT_st rfl rfl rfl rfl (V_assign rfl rfl) ?_
  refine GT_nil ?_
  refine GE_ret Tryz.func130 rfl (fun w hw => ⟨?_, hw.nil⟩)
  rfl
abbrev endB (b : Blr) (i : Nat) (A : Option Addr) (c n : Nat) (b1 b2 b3 b4 b5 b6 : Nat) : Items := [(b1, blk [I i] 3), (b2, blk [I b.pl] 3), (b3, blk [.slice A n c] 43), (b4, blk [I b.st] 2), (b5, blk [I b.pr] 3), (b6, blk [I b.rs] 2)]
theorem C_ends : Con Tryz.prog 131 [.slice A n c, I i, I b.pr, I b.pl, I b.st, I b.rs] w (fun _ : Nat × Nat × Nat × Nat × Nat × Nat => True)
    (fun y => .func (.func 190) #[] #[ptr y.1 0, ptr y.2.1 0, ptr y.2.2.1 0, ptr y.2.2.2.1 0, ptr y.2.2.2.2.1 0, ptr y.2.2.2.2.2 0]) (fun y => endB b i A c n y.1 y.2.1 y.2.2.1 y.2.2.2.1 y.2.2.2.2.1 y.2.2.2.2.2) := by
  refine Ret_of (vs := [_, _, _, _, _, _]) hm none' Tryz.func131 rfl Tryz.ntmps131 rfl ?_
  dsimp only [slotsOf]
  refine GE_seq ?_
  refine GE_plain (.ld 0 [] (.ld 1 [] (.ld 2 [] (.ld 3 [] (.ld 4 [] (.ld 5 [] (.st 6 .nil))))))) rfl ?_
  refine GT_box (z := [_]) rfl rfl rfl rfl rfl rfl rfl (fun _ => GR_nil) (fun b6 => ?_)
  refine GT_box (z := [_]) rfl rfl rfl rfl rfl rfl rfl (fun _ => GR_nil) (fun b7 => ?_)
  refine GT_box (z := [_]) rfl rfl rfl rfl rfl rfl rfl (fun _ => GR_nil) (fun b8 => ?_)
  refine GT_box (z := [_]) rfl rfl rfl rfl rfl rfl rfl (fun _ => GR_nil) (fun b9 => ?_)
  refine GT_box (z := [_]) rfl rfl rfl rfl rfl rfl rfl (fun _ => GR_nil) (fun b10 => ?_)
  refine GT_box (z := [_]) rfl rfl rfl rfl rfl rfl rfl (fun _ => GR_nil) (fun b11 => ?_)
  refine GT_st rfl rfl rfl rfl (V_assign rfl rfl) ?_
  refine GT_nil ?_
  refine GE_seq ?_
  refine GE_slots (L' := [(6, _), (7, _), (8, _), (9, _), (10, _), (11, _)]) ⟨rfl, rfl, rfl, rfl, rfl, rfl, trivial⟩ ?_
  refine GE_plain (.st 0 (.st 1 .nil)) rfl ?_
  refine GT_st rfl rfl rfl rfl (V_makeFunc rfl rfl rfl) ?_
  refine GT_st rfl rfl rfl rfl (V_assign rfl rfl) ?_
  refine GT_nil ?_
  refine GE_ret Tryz.func131 rfl (fun w hw => ?_)
  exact ⟨(b7, b9, b6, b10, b8, b11), trivial, rfl, hw.hs (C := cx Tryz.prog hm 0 0 _ none' fun _ _ => True) (HS.cons rfl (HS.cons rfl (HS.cons rfl (HS.cons rfl (HS.cons rfl (HS.cons rfl HS.nil))))))⟩
set_option maxRecDepth 10000 in
theorem C_ends1 {Ig : Items} {Q : List (Int × Int) → Items → Prop} {J G : Items} (hb : b.Ok) (hi : i ≤ 1000 ∧ i ≤ l.length) (hO : Own 1 2 eN l (.slice A l.length c) Ig)
    (hY : ∀ pre y J, (pre ++ [y]) <+: ysL b l i → Q pre J → ∀ G, YieldTo Tryz.prog w0 none' lp [I y.1, I y.2] (J ++ G) fun v H' => ∃ J', v = .bool true ∧ Q (pre ++ [y]) J' ∧ H' = J' ++ G)
    (hQ : Q [] J) (m : SH w0 none' (J ++ (endB b i A c l.length b1 b2 b3 b4 b5 b6 ++ (Ig ++ G))) w) :
    Ret Tryz.prog 190 [.func (.yield lp) #[] #[], ptr b1 0, ptr b2 0, ptr b3 0, ptr b4 0, ptr b5 0, ptr b6 0].toArray w fun _ w' => ∃ J', Q (ysL b l i) J' ∧ SH w0 none' (J' ++ (Ig ++ G)) w' := by
  obtain ⟨h1, h2, h3, h4⟩ := hb
  refine Ret_ofH (vs := [_, _, _, _, _, _, _]) hm none' Tryz.func190 rfl Tryz.ntmps190 rfl m ?_
  dsimp only [slotsOf]
  refine GE_seq ?_
  refine GE_seq ?_
  refine GE_plain (.st 0 (.st 1 (.st 2 (.st 3 .nil)))) rfl ?_
  refine GT_st rfl rfl rfl rfl (V_load rfl rfl ag_3 (CellAt.item rfl)) ?_
  refine GT_st rfl rfl rfl rfl (V_load rfl rfl ag_3 (CellAt.item rfl)) ?_
  refine GT_st rfl rfl rfl rfl (V_sub rfl rfl rfl (wrap_i64 (by omega))) ?_
  refine GT_st rfl rfl rfl rfl (V_assign rfl rfl) ?_
  refine GT_nil ?_
  refine GE_seq ?_
  refine GE_slots (L' := [(0, _), (1, _), (3, _), (4, _), (5, _), (6, _), (8, _)]) ⟨rfl, rfl, rfl, rfl, rfl, rfl, rfl, trivial⟩ ?_
  refine GE_drawn (.st 0 (.st 1 (.st 2 (.st 3 (.st 4 (.st 5 (.st 6 (.st 7 (.st 8 (.ld 9 [] (.st 10 (.st 11 .nil)))))))))))) [9] (by decide +kernel) ?_
  refine GT_st rfl rfl rfl rfl (V_move rfl rfl) ?_
  refine GT_st rfl rfl rfl rfl (V_geq rfl rfl rfl) ?_
  refine GT_st rfl rfl rfl rfl (V_move rfl rfl) ?_
  first | refine GT_splitNot (d := 15) rfl (fun q1 => ?_) (fun q1 => ?_) | refine GT_split (d := 15) rfl (fun q1 => ?_) (fun q1 => ?_) | refine GT_splitNotB (d := 15) rfl (fun q1 => ?_) (fun q1 => ?_) | refine GT_splitB (d := 15) rfl (fun q1 => ?_) (fun q1 => ?_)
  · have e1 : ys1 b l i = [(l.getD (i - b.pl) default, b.st)] := (by rw [ys1, if_pos (by omega)])
    refine GT_st_g rfl rfl rfl rfl rfl rfl rfl (V_move rfl rfl) ?_
    refine GT_st_g rfl rfl rfl rfl rfl rfl rfl (V_load rfl rfl ag_43 (CellAt.item rfl)) ?_
    refine GT_st_g rfl rfl rfl rfl rfl rfl rfl (V_move rfl rfl) ?_
    refine GT_st_g rfl rfl rfl rfl rfl rfl rfl (V_index rfl rfl rfl Tryz.underlying43 sz_2 (k := i - b.pl) (by omega) (by omega) (hO.isSome (k := i - b.pl) (by omega))) ?_
    refine GT_st_g rfl rfl rfl rfl rfl rfl rfl (V_load rfl rfl ag_2 (CellAt.own0 (k := i - b.pl) hO eN_len (by omega) rfl)) ?_
    refine GT_st_g rfl rfl rfl rfl rfl rfl rfl (V_load rfl rfl ag_2 (CellAt.item rfl)) ?_
    refine GT_yield_g rfl rfl rfl rfl rfl rfl rfl rfl rfl rfl (YieldTo.chunk (hY [] (l.getD (i - b.pl) default, b.st) J (by rw [ysL, e1]; exact List.prefix_append _ _) hQ _)) (fun _ _ _ => GR_nil) (fun v H' hR => ?_)
    obtain ⟨J1, rfl, hQ1, rfl⟩ := hR; rw [List.nil_append, ← e1] at hQ1
    first | refine GT_st_g rfl rfl rfl rfl rfl rfl rfl (V_not rfl rfl) ?_ | refine GT_st_g rfl rfl rfl rfl rfl rfl rfl (V_notB rfl rfl) ?_
    refine GT_st rfl rfl rfl rfl (V_pick_t rfl rfl rfl) ?_
    refine GT_nil ?_
    refine GE_cond_f rfl ?_
    refine GE_skip ?_
    refine GE_seq ?_
    refine GE_slots (L' := [(0, _), (1, _), (3, _), (4, _), (5, _), (6, _)]) ⟨rfl, rfl, rfl, rfl, rfl, rfl, trivial⟩ ?_
    refine GE_plain (.st 0 (.st 1 (.st 2 (.st 3 .nil)))) rfl ?_
    refine GT_st rfl rfl rfl rfl (V_load rfl rfl ag_3 (CellAt.item rfl)) ?_
    refine GT_st rfl rfl rfl rfl (V_load rfl rfl ag_3 (CellAt.item rfl)) ?_
    refine GT_st rfl rfl rfl rfl (V_sub rfl rfl rfl (wrap_i64 (by omega))) ?_
    refine GT_st rfl rfl rfl rfl (V_assign rfl rfl) ?_
    refine GT_nil ?_
    refine GE_seq ?_
    refine GE_slots (L' := [(0, _), (3, _), (4, _), (6, _), (9, _)]) ⟨rfl, rfl, rfl, rfl, rfl, trivial⟩ ?_
    refine GE_plain (.st 0 (.st 1 .nil)) rfl ?_
    refine GT_st rfl rfl rfl rfl (V_move rfl rfl) ?_
    refine GT_st rfl rfl rfl rfl (V_geq rfl rfl rfl) ?_
    refine GT_nil ?_
    first | refine GE_condNot rfl (fun q2 => ?_) (fun q2 => ?_) | refine GE_cond rfl (fun q2 => ?_) (fun q2 => ?_) | refine GE_condNotB rfl (fun q2 => ?_) (fun q2 => ?_) | refine GE_condB rfl (fun q2 => ?_) (fun q2 => ?_)
    · have e2 : ys2 b l i = [(l.getD (i - b.pr) default, b.st + b.rs)] := (by rw [ys2, if_pos (by omega)])
      refine GE_drawn (.st 0 (.st 1 (.st 2 (.st 3 (.st 4 (.st 5 (.st 6 (.st 7 (.ld 8 [] .nil))))))))) [8] (by decide +kernel) ?_
      refine GT_st rfl rfl rfl rfl (V_move rfl rfl) ?_
      refine GT_st rfl rfl rfl rfl (V_load rfl rfl ag_43 (CellAt.item rfl)) ?_
      refine GT_st rfl rfl rfl rfl (V_move rfl rfl) ?_
      refine GT_st rfl rfl rfl rfl (V_index rfl rfl rfl Tryz.underlying43 sz_2 (k := i - b.pr) (by omega) (by omega) (hO.isSome (k := i - b.pr) (by omega))) ?_
      refine GT_st rfl rfl rfl rfl (V_load rfl rfl ag_2 (CellAt.own0 (k := i - b.pr) hO eN_len (by omega) rfl)) ?_
      refine GT_st rfl rfl rfl rfl (V_load rfl rfl ag_2 (CellAt.item rfl)) ?_
      refine GT_st rfl rfl rfl rfl (V_load rfl rfl ag_2 (CellAt.item rfl)) ?_
      refine GT_st rfl rfl rfl rfl (V_add rfl rfl rfl (wrap_i64 (by omega))) ?_
      refine GT_yield rfl rfl rfl rfl rfl rfl rfl (YieldTo.chunk (hY _ (l.getD (i - b.pr) default, b.st + b.rs) _ (by rw [ysL, e2]; exact List.prefix_refl _) hQ1 _)) (fun _ _ _ => GR_nil) (fun v H' hR => ?_)
      obtain ⟨J2, rfl, hQ2, rfl⟩ := hR; rw [← e2] at hQ2
      refine GT_nil ?_
      refine GE_end Tryz.func190 rfl (fun w hw => ⟨_, hQ2, hw.hs (C := cx Tryz.prog hm 0 0 w0 none' fun _ _ => True) (HS.chunk (HS.chunk HS.last))⟩)
      skip
    · have e2 : ys2 b l i = [] := (by rw [ys2, if_neg (by omega)]); have hQ2 : Q (ysL b l i) _ := (by rw [ysL, e2, List.append_nil]; exact hQ1)
      refine GE_skip ?_
      refine GE_end Tryz.func190 rfl (fun w hw => ⟨_, hQ2, hw.hs (C := cx Tryz.prog hm 0 0 w0 none' fun _ _ => True) (HS.chunk (HS.chunk HS.last))⟩)
      skip
  · have e1 : ys1 b l i = [] := (by rw [ys1, if_neg (by omega)]); have hQ1 : Q (ys1 b l i) J := (by rw [e1]; exact hQ)
    refine GT_skip rfl rfl rfl rfl rfl (by decide) rfl rfl ?_
    refine GT_skip rfl rfl rfl rfl rfl (by decide) rfl rfl ?_
    refine GT_skip rfl rfl rfl rfl rfl (by decide) rfl rfl ?_
    refine GT_skip rfl rfl rfl rfl rfl (by decide) rfl rfl ?_
    refine GT_skip rfl rfl rfl rfl rfl (by decide) rfl rfl ?_
    refine GT_skip rfl rfl rfl rfl rfl (by decide) rfl rfl ?_
    refine GT_skip_ld rfl rfl rfl rfl rfl (by decide) rfl rfl rfl (GR_nil) ?_
    refine GT_skip rfl rfl rfl rfl rfl (by decide) rfl rfl ?_
    refine GT_st rfl rfl rfl rfl (V_pick_f rfl rfl rfl) ?_
    refine GT_nil ?_
    refine GE_cond_f rfl ?_
    refine GE_skip ?_
    refine GE_seq ?_
    refine GE_slots (L' := [(0, _), (1, _), (3, _), (4, _), (5, _), (6, _)]) ⟨rfl, rfl, rfl, rfl, rfl, rfl, trivial⟩ ?_
    refine GE_plain (.st 0 (.st 1 (.st 2 (.st 3 .nil)))) rfl ?_
    refine GT_st rfl rfl rfl rfl (V_load rfl rfl ag_3 (CellAt.item rfl)) ?_
    refine GT_st rfl rfl rfl rfl (V_load rfl rfl ag_3 (CellAt.item rfl)) ?_
    refine GT_st rfl rfl rfl rfl (V_sub rfl rfl rfl (wrap_i64 (by omega))) ?_
    refine GT_st rfl rfl rfl rfl (V_assign rfl rfl) ?_
    refine GT_nil ?_
    refine GE_seq ?_
    refine GE_slots (L' := [(0, _), (3, _), (4, _), (6, _), (9, _)]) ⟨rfl, rfl, rfl, rfl, rfl, trivial⟩ ?_
    refine GE_plain (.st 0 (.st 1 .nil)) rfl ?_
    refine GT_st rfl rfl rfl rfl (V_move rfl rfl) ?_
    refine GT_st rfl rfl rfl rfl (V_geq rfl rfl rfl) ?_
    refine GT_nil ?_
    first | refine GE_condNot rfl (fun q2 => ?_) (fun q2 => ?_) | refine GE_cond rfl (fun q2 => ?_) (fun q2 => ?_) | refine GE_condNotB rfl (fun q2 => ?_) (fun q2 => ?_) | refine GE_condB rfl (fun q2 => ?_) (fun q2 => ?_)
    · have e2 : ys2 b l i = [(l.getD (i - b.pr) default, b.st + b.rs)] := (by rw [ys2, if_pos (by omega)])
      refine GE_drawn (.st 0 (.st 1 (.st 2 (.st 3 (.st 4 (.st 5 (.st 6 (.st 7 (.ld 8 [] .nil))))))))) [8] (by decide +kernel) ?_
      refine GT_st rfl rfl rfl rfl (V_move rfl rfl) ?_
      refine GT_st rfl rfl rfl rfl (V_load rfl rfl ag_43 (CellAt.item rfl)) ?_
      refine GT_st rfl rfl rfl rfl (V_move rfl rfl) ?_
      refine GT_st rfl rfl rfl rfl (V_index rfl rfl rfl Tryz.underlying43 sz_2 (k := i - b.pr) (by omega) (by omega) (hO.isSome (k := i - b.pr) (by omega))) ?_
      refine GT_st rfl rfl rfl rfl (V_load rfl rfl ag_2 (CellAt.own0 (k := i - b.pr) hO eN_len (by omega) rfl)) ?_
      refine GT_st rfl rfl rfl rfl (V_load rfl rfl ag_2 (CellAt.item rfl)) ?_
      refine GT_st rfl rfl rfl rfl (V_load rfl rfl ag_2 (CellAt.item rfl)) ?_
      refine GT_st rfl rfl rfl rfl (V_add rfl rfl rfl (wrap_i64 (by omega))) ?_
      refine GT_yield rfl rfl rfl rfl rfl rfl rfl (YieldTo.chunk (hY _ (l.getD (i - b.pr) default, b.st + b.rs) _ (by rw [ysL, e2]; exact List.prefix_refl _) hQ1 _)) (fun _ _ _ => GR_nil) (fun v H' hR => ?_)
      obtain ⟨J2, rfl, hQ2, rfl⟩ := hR; rw [← e2] at hQ2
      refine GT_nil ?_
      refine GE_end Tryz.func190 rfl (fun w hw => ⟨_, hQ2, hw.hs (C := cx Tryz.prog hm 0 0 w0 none' fun _ _ => True) (HS.chunk (HS.chunk HS.last))⟩)
      skip
    · have e2 : ys2 b l i = [] := (by rw [ys2, if_neg (by omega)]); have hQ2 : Q (ysL b l i) _ := (by rw [ysL, e2, List.append_nil]; exact hQ1)
      refine GE_skip ?_
      refine GE_end Tryz.func190 rfl (fun w hw => ⟨_, hQ2, hw.hs (C := cx Tryz.prog hm 0 0 w0 none' fun _ _ => True) (HS.chunk (HS.chunk HS.last))⟩)
      skip
end
end Go.Proofs.YtpbflnfcgcldkaaGreatDoor.Prs
/- Starts at a boiler, walked. -/
namespace Go.Proofs.YtpbflnfcgcldkaaGreatDoor.Prs
open Go.Sx Go.Proofs Go.RowKit
open Side (eN eN_len eN_one getD_memT sh_trans)
theorem ini_z {l : List Int} {i : Nat} (h : ¬ (i : Int) > 0) : ini l i = 0 := by unfold ini; rw [if_pos (by omega)]
theorem ini_p {l : List Int} {i : Nat} (h : (i : Int) > 0) : ini l i = l.getD (i - 1) default := by unfold ini; rw [if_neg (by omega)]
theorem mxF_pre {t B : Int} {pre ys : List (Int × Int)} (hp : pre <+: ys) (h : 0 ≤ t ∧ t ≤ B) (hy : ∀ y ∈ ys, 0 ≤ y.1 + y.2 ∧ y.1 + y.2 ≤ B) : 0 ≤ mxF t pre ∧ mxF t pre ≤ B := mxF_bd h fun y q => hy y (hp.subset q)
section
variable {w : World} {n : Nat} {b : Blr}
set_option maxRecDepth 10000 in
theorem C_Starts (hb : b.Ok) (hn : n ≤ 1000) : Con Tryz.prog 61 [I b.pr, I b.pl, I b.st, I b.rs, I n] w (fun y : Option Addr × Nat × Items => Own 1 2 eN (stS b n) (.slice y.1 (stS b n).length y.2.1) y.2.2) (fun y => .tuple #[.slice y.1 (stS b n).length y.2.1, I 0]) (fun y => y.2.2) := by
  refine Ret_of (vs := [_, _, _, _, _]) hm none' Tryz.func61 rfl Tryz.ntmps61 rfl ?_
  dsimp only [slotsOf]
  refine GE_seq ?_
  refine GE_plain (.st 0 (.st 1 .nil)) rfl ?_
  refine GT_st rfl rfl rfl rfl (V_assign rfl rfl) ?_
  refine GT_st rfl rfl rfl rfl (V_assign rfl rfl) ?_
  refine GT_nil ?_
  refine GE_seq ?_
  refine GE_seq ?_
  refine GE_plain (.st 0 (.st 1 (.st 2 (.st 3 (.st 4 (.ld 5 [] (.st 6 .nil))))))) rfl ?_
  refine GT_st rfl rfl rfl rfl (V_move rfl rfl) ?_
  refine GT_st rfl rfl rfl rfl (V_move rfl rfl) ?_
  refine GT_st rfl rfl rfl rfl (V_move rfl rfl) ?_
  refine GT_st rfl rfl rfl rfl (V_move rfl rfl) ?_
  refine GT_st rfl rfl rfl rfl (V_move rfl rfl) ?_
  refine GT_call0 rfl rfl rfl rfl rfl rfl rfl rfl rn_130 (fun w hw => C_checkBoiler hb hn) (GR_nil) ?_
  refine GT_st rfl rfl rfl rfl (V_assign rfl rfl) ?_
  refine GT_nil ?_
  refine GE_seq ?_
  refine GE_slots (L' := [(0, _), (1, _), (2, _), (3, _), (4, _), (10, _), (11, _), (12, _)]) ⟨rfl, rfl, rfl, rfl, rfl, rfl, rfl, rfl, trivial⟩ ?_
  refine GE_plain (.st 0 (.st 1 .nil)) rfl ?_
  refine GT_st rfl rfl rfl rfl (V_move rfl rfl) ?_
  refine GT_st rfl rfl rfl rfl (V_isF (V_neq rfl rfl rfl) (fun q => q rfl)) ?_
  refine GT_nil ?_
  refine GE_cond_f rfl ?_
  refine GE_skip ?_
  refine GE_seq ?_
  refine GE_plain (.st 0 .nil) rfl ?_
  refine GT_st rfl rfl rfl rfl (V_assign rfl rfl) ?_
  refine GT_nil ?_
  refine GE_seq ?_
  refine GE_seq ?_
  refine GE_plain (.st 0 (.st 1 .nil)) rfl ?_
  refine GT_st rfl rfl rfl rfl (V_move rfl rfl) ?_
  refine GT_st rfl rfl rfl rfl (V_move rfl rfl) ?_
  refine GT_nil ?_
  refine GE_block ?_
  refine GE_to (GE_loopD (ι := Nat × (Option Addr × Nat × Items) × List Nat) (fun z => n - z.1) (fun z => [(0, I b.pr), (1, I b.pl), (2, I b.st), (3, I b.rs), (13, .slice z.2.1.1 (stS b z.1).length z.2.1.2.1), (27, I n), (28, I z.1)]) (fun z => dq z.2.2) (fun z => z.2.1.2.2 ++ iq z.2.2) (fun z => z.1 ≤ n ∧ Own 1 2 eN (stS b z.1) (.slice z.2.1.1 (stS b z.1).length z.2.1.2.1) z.2.1.2.2) ?_ (0, (none, 0, []), []) ?_) ⟨rfl, rfl, rfl, rfl, rfl, rfl, rfl, trivial⟩ HS.nil
  · rintro ⟨k, ⟨A1, c1, I1⟩, qs⟩ ⟨hk, hO⟩ ih; dsimp only at hk hO ih ⊢
    refine GE_seq ?_
    refine GE_plain (.st 0 .nil) rfl ?_
    refine GT_st rfl rfl rfl rfl (V_lss rfl rfl rfl) ?_
    refine GT_nil ?_
    refine GE_seq ?_
    first | refine GE_condNot rfl (fun q1 => ?_) (fun q1 => ?_) | refine GE_cond rfl (fun q1 => ?_) (fun q1 => ?_) | refine GE_condNotB rfl (fun q1 => ?_) (fun q1 => ?_) | refine GE_condB rfl (fun q1 => ?_) (fun q1 => ?_)
    · have hkn : k < n := (by omega); have hsl := stS_len b k; have hsb := stS_bd hb k; have hib := ini_bd (l := stS b k) (i := k) (by omega) (by omega) hsb; have hyb := ys_bd hb (l := stS b k) (i := k) (by omega) hsb; have hyb2 : ∀ y ∈ ysL b (stS b k) k, 0 ≤ y.1 + y.2 ∧ y.1 + y.2 ≤ 131072 * k + 131072 := (fun y hy => by have := hyb y hy; omega)
      refine GE_skip ?_
      refine GE_seq ?_
      refine GE_block ?_
      refine GE_seq ?_
      refine GE_plain (.st 0 (.st 1 .nil)) rfl ?_
      refine GT_st rfl rfl rfl rfl (V_move rfl rfl) ?_
      refine GT_st rfl rfl rfl rfl (V_assign rfl rfl) ?_
      refine GT_nil ?_
      refine GE_seq ?_
      refine GE_plain (.ld 0 [] (.ld 1 [] .nil)) rfl ?_
      refine GT_alloc rfl rfl rfl rfl rfl zc_2 (fun _ => GR_nil) (fun b15 => ?_)
      refine GT_store (vs := [_]) (l' := [_]) rfl rfl rfl rfl rfl rfl rfl sz_2 rfl rfl (Nat.le_of_ble_eq_true rfl) rfl (GR_nil) ?_
      refine GT_nil ?_
      refine GE_cut (ι := Unit) (fun _ => [(0, I b.pr), (1, I b.pl), (2, I b.st), (3, I b.rs), (13, .slice A1 (stS b k).length c1), (14, I k), (15, ptr b15 0), (27, I n), (28, I k)]) (fun _ => (b15, blk [I (ini (stS b k) k)] 2) :: (I1 ++ iq qs)) (fun _ => True) ?_ (fun hk => ?_)
      · intro _ hx
        refine GE_seq ?_
        refine GE_seq ?_
        refine GE_plain (.st 0 (.st 1 (.st 2 (.st 3 (.st 4 (.st 5 (.ld 6 [] .nil))))))) rfl ?_
        refine GT_st rfl rfl rfl rfl (V_move rfl rfl) ?_
        refine GT_st rfl rfl rfl rfl (V_move rfl rfl) ?_
        refine GT_st rfl rfl rfl rfl (V_move rfl rfl) ?_
        refine GT_st rfl rfl rfl rfl (V_move rfl rfl) ?_
        refine GT_st rfl rfl rfl rfl (V_move rfl rfl) ?_
        refine GT_st rfl rfl rfl rfl (V_move rfl rfl) ?_
        refine GT_call rfl rfl rfl rfl rfl rfl rfl rfl rn_131 (fun w hw => C_ends) (fun _ _ => GR_nil) (fun be _ => ?_)
        refine GT_nil ?_
        refine GE_block ?_
        refine GE_range rfl rfl rn_190 (fun T l5 q r0 hr0 hT hlk w hw => ?_)
        refine (C_ends1 (b := b) (l := stS b k) (i := k) (lp := l5) (J := (l5, .loop r0) :: (b15, blk [I (ini (stS b k) k)] 2) :: []) (G := (q, .deferred (some [])) :: iq qs)
          (Q := fun pre J' => J' = (l5, .loop r0) :: (b15, blk [I (mxF (ini (stS b k) k) pre)] 2) :: [])
          hb ⟨by omega, by omega⟩ hO ?_ rfl (hw.hs (C := cx Tryz.prog hm 0 0 _ none' fun _ _ => True) (HS.cons rfl (HS.cons rfl (HS.cons rfl (HS.cons rfl (HS.cons rfl (HS.cons rfl (HS.cons rfl (HS.cons rfl (HS.chunk (HS.chunk (HS.cons rfl HS.last))))))))))))).mono (fun v w' ⟨J', hJ', hw'⟩ => ?_)
        · intro pre y J2 hpre hJ G2; subst hJ; subst hr0
          have hy := hyb y (hpre.subset (List.mem_append_right _ (List.mem_singleton.2 rfl)))
          have hmb := mxF_pre ((List.prefix_append pre [y]).trans hpre) (t := ini (stS b k) k) (B := 131072 * k + 131072) (by omega) hyb2
          refine yield_of inferInstance rfl rfl hT hlk rfl rfl hm ?_
          refine GE_slots (L' := [(15, ptr b15 0), (45, I y.1), (46, I y.2)]) ⟨rfl, rfl, rfl, trivial⟩ ?_
          refine GE_seq ?_
          refine GE_plain (.st 0 .nil) rfl ?_
          refine GT_st rfl rfl rfl rfl (V_assign rfl rfl) ?_
          refine GT_nil ?_
          refine GE_plain (.st 0 .nil) rfl ?_
          refine GT_st rfl rfl rfl rfl (V_assign rfl rfl) ?_
          refine GT_nil ?_
          refine GE_beginRound rfl ?_
          refine GE_block ?_
          refine GE_plain (.st 0 (.st 1 (.st 2 (.st 3 (.st 4 (.ld 5 [] .nil)))))) rfl ?_
          refine GT_st rfl rfl rfl rfl (V_load rfl rfl ag_2 (CellAt.item rfl)) ?_
          refine GT_st rfl rfl rfl rfl (V_move rfl rfl) ?_
          refine GT_st rfl rfl rfl rfl (V_move rfl rfl) ?_
          refine GT_st rfl rfl rfl rfl (V_add rfl rfl rfl (wrap_i64 (by omega))) ?_
          refine GT_st rfl rfl rfl rfl (V_max rfl rfl rfl) ?_
          refine GT_store (vs := [_]) (l' := [_]) rfl rfl rfl rfl rfl rfl rfl sz_2 rfl rfl (Nat.le_of_ble_eq_true rfl) rfl (GR_nil) ?_
          refine GT_nil ?_
          refine GE_inBlock ?_
          refine GE_leave none rfl (fun w hw => ⟨_, ⟨_, rfl, by rw [mxF_app], rfl⟩, ?_⟩)
          exact hw.hs (HS.cons rfl (HS.cons rfl HS.last))
        · subst hJ'; subst hr0
          refine ⟨_, (b15, blk [I (mxF (ini (stS b k) k) (ysL b (stS b k) k))] 2) :: (I1 ++ iq qs), ?_, hw'.hs (C := cx Tryz.prog hm 0 0 _ none' fun _ _ => True) (HS.cons rfl (HS.cons rfl (HS.cons rfl (HS.chunk HS.last)))), ?_⟩
          · intro h; cases h
          refine GE_D (D' := dq (q :: qs)) ?_ rfl
          refine GE_inBlock ?_
          refine GE_slots (L' := [(0, _), (1, _), (2, _), (3, _), (13, _), (15, _), (27, _), (28, _)]) ⟨rfl, rfl, rfl, rfl, rfl, rfl, rfl, rfl, trivial⟩ ?_
          refine GE_plain (.st 0 (.st 1 (.ld 2 [] (.ld 3 [] (.ld 4 [] .nil))))) rfl ?_
          refine GT_st rfl rfl rfl rfl (V_move rfl rfl) ?_
          refine GT_st rfl rfl rfl rfl (V_load rfl rfl ag_2 (CellAt.item rfl)) ?_
          refine GT_buildSlice (z := [_]) rfl rfl rfl rfl rfl Tryz.underlying43 zc_2 sz_2 (by decide) rfl rfl (fun _ => GR_nil) (fun b54 => ?_)
          refine GT_append (enc := eN) (l := stS b k) (m := [mxF (ini (stS b k) k) (ysL b (stS b k) k)]) rfl rfl rfl rfl rfl rfl rfl hO (fun w m => RdL.own' m eN_len) Tryz.underlying43 zc_2 sz_2 ⟨rfl, by decide⟩ by_2 ⟨by rw [hsl]; simp only [List.length_singleton]; omega, by rw [hsl]; simp only [List.length_singleton]; omega⟩ eN_len eN_one (fun _ _ _ _ => GR_nil) (fun A3 c3 I3 hO3 => ?_)
          refine GT_ldv rfl rfl rfl rfl rfl (V_assign rfl rfl) (GR_nil) ?_
          refine GT_nil ?_
          refine GE_inBlock ?_
          refine GE_slots (L' := [(0, _), (1, _), (2, _), (3, _), (13, _), (27, _), (28, _)]) ⟨rfl, rfl, rfl, rfl, rfl, rfl, rfl, trivial⟩ ?_
          refine GE_plain (.st 0 (.ld 1 [] .nil)) rfl ?_
          refine GT_st rfl rfl rfl rfl (V_add rfl rfl rfl (wrap_i64 (by omega))) ?_
          refine GT_ldv rfl rfl rfl rfl rfl (V_move rfl rfl) (GR_nil) ?_
          refine GT_nil ?_
          exact GE_to (ih (k + 1, (A3, c3, I3), q :: qs) ⟨by dsimp only; omega, hO3⟩ (by dsimp only; omega)) ⟨rfl, rfl, rfl, rfl, rfl, rfl, rfl, trivial⟩ (HS.chunk HS.last)
      · skip
        refine GE_seq ?_
        refine GE_plain (.st 0 (.st 1 .nil)) rfl ?_
        refine GT_st rfl rfl rfl rfl (V_move rfl rfl) ?_
        refine GT_st rfl rfl rfl rfl (V_gtr rfl rfl rfl) ?_
        refine GT_nil ?_
        first | refine GE_condNot rfl (fun q2 => ?_) (fun q2 => ?_) | refine GE_cond rfl (fun q2 => ?_) (fun q2 => ?_) | refine GE_condNotB rfl (fun q2 => ?_) (fun q2 => ?_) | refine GE_condB rfl (fun q2 => ?_) (fun q2 => ?_)
        · skip
          refine GE_slots (L' := [(0, _), (1, _), (2, _), (3, _), (13, _), (14, _), (15, _), (27, _), (28, _)]) ⟨rfl, rfl, rfl, rfl, rfl, rfl, rfl, rfl, rfl, trivial⟩ ?_
          refine GE_plain (.st 0 (.st 1 (.st 2 (.st 3 (.st 4 (.ld 5 [] .nil)))))) rfl ?_
          refine GT_st rfl rfl rfl rfl (V_move rfl rfl) ?_
          refine GT_st rfl rfl rfl rfl (V_move rfl rfl) ?_
          refine GT_st rfl rfl rfl rfl (V_sub rfl rfl rfl (wrap_i64 (by omega))) ?_
          refine GT_st rfl rfl rfl rfl (V_index rfl rfl rfl Tryz.underlying43 sz_2 (k := k - 1) (by omega) (by omega) (hO.isSome (k := k - 1) (by omega))) ?_
          refine GT_st rfl rfl rfl rfl (V_load rfl rfl ag_2 (CellAt.own0 (k := k - 1) hO eN_len (by omega) rfl)) ?_
          refine GT_store (vs := [_]) (l' := [_]) rfl rfl rfl rfl rfl rfl rfl sz_2 rfl rfl (Nat.le_of_ble_eq_true rfl) rfl (GR_nil) ?_
          refine GT_nil ?_
          exact GE_to (hk () trivial) ⟨rfl, rfl, rfl, rfl, rfl, rfl, rfl, rfl, rfl, trivial⟩ (HS.cons (by first | rw [ini_z q2] | rw [ini_p q2]) (HS.chunk HS.last))
        · skip
          refine GE_skip ?_
          exact GE_to (hk () trivial) ⟨rfl, rfl, rfl, rfl, rfl, rfl, rfl, rfl, rfl, trivial⟩ (HS.cons (by first | rw [ini_z q2] | rw [ini_p q2]) (HS.chunk HS.last))
    · obtain rfl : k = n := (by omega)
      refine GE_exit rfl ?_
      refine GE_seq ?_
      refine GE_slots (L' := [(13, _)]) ⟨rfl, trivial⟩ ?_
      refine GE_plain (.st 0 (.st 1 (.st 2 .nil))) rfl ?_
      refine GT_st rfl rfl rfl rfl (V_move rfl rfl) ?_
      refine GT_st rfl rfl rfl rfl (V_assign rfl rfl) ?_
      refine GT_st rfl rfl rfl rfl (V_assign rfl rfl) ?_
      refine GT_nil ?_
      refine GE_retq Tryz.func61 ⟨_, _, rfl, rfl, rfl⟩ (fun w hw => ?_)
      exact ⟨(A1, c1, I1), hO, rfl, hw.hs (C := cx Tryz.prog hm 0 0 _ none' fun _ _ => True) HS.last⟩
  · exact ⟨Nat.zero_le _, Own.nil⟩
end
end Go.Proofs.YtpbflnfcgcldkaaGreatDoor.Prs
/- The fewest sheets, walked. -/
namespace Go.Proofs.YtpbflnfcgcldkaaGreatDoor.Slv
open Go.Sx Go.Proofs Go.RowKit
open Side (eN eN_len eN_one getD_memT sh_trans)
section
variable {w : World} {A : Option Addr} {c : Nat} {l : List Int} {s : Int}
set_option maxRecDepth 10000 in
theorem C_run (hr : RdL w 1 eN A l) (hc : CopOk l) (hs : 1 ≤ s ∧ s ≤ 64) (hl : (l.length : Int) ≤ s) (h0 : 1 ≤ l.length) : Con Tryz.prog 86 [.slice A l.length c, I s] w (fun n : Int => Lst l s n) (fun n => .tuple #[I n, .bool true]) (fun _ => []) := by
  have hc' := hc
  obtain ⟨h8, hx⟩ := hc'
  refine Ret_of (vs := [_, _]) hm none' Tryz.func86 rfl Tryz.ntmps86 rfl ?_
  dsimp only [slotsOf]
  refine GE_seq ?_
  refine GE_plain (.st 0 (.st 1 .nil)) rfl ?_
  refine GT_st rfl rfl rfl rfl (V_assign rfl rfl) ?_
  refine GT_st rfl rfl rfl rfl (V_assign rfl rfl) ?_
  refine GT_nil ?_
  refine GE_seq ?_
  refine GE_seq ?_
  refine GE_plain (.st 0 (.st 1 (.st 2 (.st 3 .nil)))) rfl ?_
  refine GT_st rfl rfl rfl rfl (V_move rfl rfl) ?_
  refine GT_st rfl rfl rfl rfl (V_len rfl Tryz.underlying43 rfl) ?_
  refine GT_st rfl rfl rfl rfl (V_move rfl rfl) ?_
  refine GT_st rfl rfl rfl rfl (V_isF (V_gtr rfl rfl rfl) (by omega)) ?_
  refine GT_nil ?_
  refine GE_cond_f rfl ?_
  refine GE_skip ?_
  refine GE_seq ?_
  refine GE_seq ?_
  refine GE_slots (L' := [(0, _), (1, _)]) ⟨rfl, rfl, trivial⟩ ?_
  refine GE_plain (.st 0 (.st 1 (.st 2 .nil))) rfl ?_
  refine GT_st rfl rfl rfl rfl (V_move rfl rfl) ?_
  refine GT_st rfl rfl rfl rfl (V_len rfl Tryz.underlying43 rfl) ?_
  refine GT_st rfl rfl rfl rfl (V_isF (V_eql rfl rfl rfl) (by omega)) ?_
  refine GT_nil ?_
  refine GE_cond_f rfl ?_
  refine GE_skip ?_
  refine GE_seq ?_
  refine GE_plain (.st 0 (.ld 1 [] (.st 2 (.st 3 .nil)))) rfl ?_
  refine GT_st rfl rfl rfl rfl (V_move rfl rfl) ?_
  refine GT_call rfl rfl rfl rfl rfl rfl rfl rfl rn_145 (fun w hw => C_Max (hr.sh hw) ⟨h0, by omega⟩) (fun _ _ => GR_nil) (fun mx hmx => ?_)
  refine GT_st rfl rfl rfl rfl (V_assign rfl rfl) ?_
  refine GT_st rfl rfl rfl rfl (V_assign rfl rfl) ?_
  refine GT_nil ?_
  refine GE_seq ?_
  refine GE_block ?_
  refine GE_to (GE_loop (ι := Int × Int) (fun z => (z.2 - z.1).toNat) (fun z => [(0, .slice A l.length c), (1, I s), (6, I z.1), (7, I z.2)]) (fun z => []) (fun z => (1 ≤ z.1 ∧ z.1 ≤ z.2 ∧ z.2 ≤ 1048576) ∧ rsum l z.2 ≤ s ∧ ∀ m, 1 ≤ m → m < z.1 → s < rsum l m) ?_ (1, mx) ?_) ⟨rfl, rfl, rfl, rfl, trivial⟩ HS.nil
  · rintro ⟨lo, hi⟩ ⟨⟨z1, z2, z3⟩, z4, z5⟩ ih; dsimp only at z1 z2 z3 z4 z5 ih ⊢
    refine GE_seq ?_
    refine GE_seq ?_
    refine GE_plain (.st 0 (.st 1 (.st 2 .nil))) rfl ?_
    refine GT_st rfl rfl rfl rfl (V_move rfl rfl) ?_
    refine GT_st rfl rfl rfl rfl (V_move rfl rfl) ?_
    refine GT_st rfl rfl rfl rfl (V_lss rfl rfl rfl) ?_
    refine GT_nil ?_
    first | refine GE_condNot rfl (fun q1 => ?_) (fun q1 => ?_) | refine GE_cond rfl (fun q1 => ?_) (fun q1 => ?_) | refine GE_condNotB rfl (fun q1 => ?_) (fun q1 => ?_) | refine GE_condB rfl (fun q1 => ?_) (fun q1 => ?_)
    · have hmid : 1 ≤ (lo + hi) / 2 ∧ (lo + hi) / 2 < hi ∧ lo ≤ (lo + hi) / 2 := (by omega)
      refine GE_skip ?_
      refine GE_block ?_
      refine GE_seq ?_
      refine GE_plain (.st 0 (.st 1 (.st 2 (.st 3 (.st 4 .nil))))) rfl ?_
      refine GT_st rfl rfl rfl rfl (V_move rfl rfl) ?_
      refine GT_st rfl rfl rfl rfl (V_move rfl rfl) ?_
      refine GT_st rfl rfl rfl rfl (V_add rfl rfl rfl (wrap_i64 (by omega))) ?_
      refine GT_st rfl rfl rfl rfl (V_quo rfl rfl rfl (by omega) ((show IntKind.i64.wrap ((lo + hi).tdiv 2) = (lo + hi) / 2 from by rw [Int.tdiv_eq_ediv_of_nonneg (by omega)]; exact wrap_i64 (by omega)))) ?_
      refine GT_st rfl rfl rfl rfl (V_assign rfl rfl) ?_
      refine GT_nil ?_
      refine GE_seq ?_
      refine GE_slots (L' := [(0, _), (1, _), (6, _), (7, _), (8, _)]) ⟨rfl, rfl, rfl, rfl, rfl, trivial⟩ ?_
      refine GE_plain (.st 0 (.st 1 (.ld 2 [] (.st 3 (.st 4 (.st 5 (.st 6 (.st 7 .nil)))))))) rfl ?_
      refine GT_st rfl rfl rfl rfl (V_move rfl rfl) ?_
      refine GT_st rfl rfl rfl rfl (V_move rfl rfl) ?_
      refine GT_call rfl rfl rfl rfl rfl rfl rfl rfl rn_87 (fun w hw => C_places (hr.sh hw) hc ⟨hmid.1, by omega⟩) (fun _ _ => GR_nil) (fun y hy => ?_)
      refine GT_st rfl rfl rfl rfl (V_move rfl rfl) ?_
      refine GT_st rfl rfl rfl rfl (V_extract rfl rfl rfl) ?_
      refine GT_st rfl rfl rfl rfl (V_extract rfl rfl rfl) ?_
      refine GT_st rfl rfl rfl rfl (V_assign rfl rfl) ?_
      refine GT_st rfl rfl rfl rfl (V_assign rfl rfl) ?_
      refine GT_nil ?_
      refine GE_seq ?_
      refine GE_slots (L' := [(0, _), (1, _), (6, _), (7, _), (8, _), (10, _)]) ⟨rfl, rfl, rfl, rfl, rfl, rfl, trivial⟩ ?_
      refine GE_plain (.st 0 (.st 1 (.st 2 .nil))) rfl ?_
      refine GT_st rfl rfl rfl rfl (V_move rfl rfl) ?_
      refine GT_st rfl rfl rfl rfl (V_move rfl rfl) ?_
      refine GT_st rfl rfl rfl rfl (V_leq rfl rfl rfl) ?_
      refine GT_nil ?_
      first | refine GE_condNot rfl (fun q2 => ?_) (fun q2 => ?_) | refine GE_cond rfl (fun q2 => ?_) (fun q2 => ?_) | refine GE_condNotB rfl (fun q2 => ?_) (fun q2 => ?_) | refine GE_condB rfl (fun q2 => ?_) (fun q2 => ?_)
      · skip
        refine GE_slots (L' := [(0, _), (1, _), (6, _), (8, _)]) ⟨rfl, rfl, rfl, rfl, trivial⟩ ?_
        refine GE_plain (.st 0 (.st 1 .nil)) rfl ?_
        refine GT_st rfl rfl rfl rfl (V_move rfl rfl) ?_
        refine GT_st rfl rfl rfl rfl (V_assign rfl rfl) ?_
        refine GT_nil ?_
        refine GE_inBlock ?_
        first
          | exact GE_to (ih (lo, (lo + hi) / 2) ⟨⟨by dsimp only; omega, by dsimp only; omega, by dsimp only; omega⟩, q2, z5⟩ (by dsimp only; omega)) ⟨rfl, rfl, rfl, rfl, trivial⟩ HS.nil
          | exact GE_to (ih ((lo + hi) / 2 + 1, hi) ⟨⟨by dsimp only; omega, by dsimp only; omega, by dsimp only; omega⟩, z4, fun m h1 h2 => by dsimp only at h2; have := rsum_anti (l := l) (fun x h => (hx x h).1) h1 (show m ≤ (lo + hi) / 2 by omega); omega⟩ (by dsimp only; omega)) ⟨rfl, rfl, rfl, rfl, trivial⟩ HS.nil
      · skip
        refine GE_slots (L' := [(0, _), (1, _), (7, _), (8, _)]) ⟨rfl, rfl, rfl, rfl, trivial⟩ ?_
        refine GE_plain (.st 0 (.st 1 (.st 2 .nil))) rfl ?_
        refine GT_st rfl rfl rfl rfl (V_move rfl rfl) ?_
        refine GT_st rfl rfl rfl rfl (V_add rfl rfl rfl (wrap_i64 (by omega))) ?_
        refine GT_st rfl rfl rfl rfl (V_assign rfl rfl) ?_
        refine GT_nil ?_
        refine GE_inBlock ?_
        first
          | exact GE_to (ih (lo, (lo + hi) / 2) ⟨⟨by dsimp only; omega, by dsimp only; omega, by dsimp only; omega⟩, q2, z5⟩ (by dsimp only; omega)) ⟨rfl, rfl, rfl, rfl, trivial⟩ HS.nil
          | exact GE_to (ih ((lo + hi) / 2 + 1, hi) ⟨⟨by dsimp only; omega, by dsimp only; omega, by dsimp only; omega⟩, z4, fun m h1 h2 => by dsimp only at h2; have := rsum_anti (l := l) (fun x h => (hx x h).1) h1 (show m ≤ (lo + hi) / 2 by omega); omega⟩ (by dsimp only; omega)) ⟨rfl, rfl, rfl, rfl, trivial⟩ HS.nil
    · obtain rfl : lo = hi := (by omega)
      refine GE_exit rfl ?_
      refine GE_seq ?_
      refine GE_slots (L' := [(6, _)]) ⟨rfl, trivial⟩ ?_
      refine GE_plain (.st 0 (.st 1 (.st 2 .nil))) rfl ?_
      refine GT_st rfl rfl rfl rfl (V_move rfl rfl) ?_
      refine GT_st rfl rfl rfl rfl (V_assign rfl rfl) ?_
      refine GT_st rfl rfl rfl rfl (V_assign rfl rfl) ?_
      refine GT_nil ?_
      refine GE_ret Tryz.func86 ⟨_, _, rfl, rfl, rfl⟩ (fun w hw => ?_)
      exact ⟨lo, ⟨z1, z3, z4, z5⟩, rfl, hw.nil⟩
  · exact ⟨⟨Int.le_refl _, (hx _ hmx.1).1, (hx _ hmx.1).2⟩, by dsimp only; rw [rsum_top fun y hy => ⟨(hx y hy).1, hmx.2 y hy⟩]; exact hl, fun m h1 h2 => by dsimp only at h2; omega⟩
theorem C_Run (hr : RdL w 1 eN A l) (hc : CopOk l) (hs : 1 ≤ s ∧ s ≤ 64) (hl : (l.length : Int) ≤ s) (h0 : 1 ≤ l.length) : Con Tryz.prog 36 [.slice A l.length c, I s] w (fun y : Int × Option Addr × Nat × Items => Lst l s y.1 ∧ Own 1 2 eN (plL l y.1) (.slice y.2.1 l.length y.2.2.1) y.2.2.2)
    (fun y => .tuple #[I y.1, .slice y.2.1 l.length y.2.2.1, I 0]) (fun y => y.2.2.2) := by
  refine Ret_of (vs := [_, _]) hm none' Tryz.func36 rfl Tryz.ntmps36 rfl ?_
  dsimp only [slotsOf]
  refine GE_seq ?_
  refine GE_plain (.st 0 (.st 1 (.st 2 .nil))) rfl ?_
  refine GT_st rfl rfl rfl rfl (V_assign rfl rfl) ?_
  refine GT_st rfl rfl rfl rfl (V_assign rfl rfl) ?_
  refine GT_st rfl rfl rfl rfl (V_assign rfl rfl) ?_
  refine GT_nil ?_
  refine GE_seq ?_
  refine GE_seq ?_
  refine GE_plain (.st 0 (.st 1 (.ld 2 [] (.st 3 .nil)))) rfl ?_
  refine GT_st rfl rfl rfl rfl (V_move rfl rfl) ?_
  refine GT_st rfl rfl rfl rfl (V_move rfl rfl) ?_
  refine GT_call0 rfl rfl rfl rfl rfl rfl rfl rfl rn_85 (fun w hw => C_CheckCopies (hr.sh hw) hc hs (by decide)) (GR_nil) ?_
  refine GT_st rfl rfl rfl rfl (V_assign rfl rfl) ?_
  refine GT_nil ?_
  refine GE_seq ?_
  refine GE_slots (L' := [(0, _), (1, _), (7, _)]) ⟨rfl, rfl, rfl, trivial⟩ ?_
  refine GE_plain (.st 0 (.st 1 .nil)) rfl ?_
  refine GT_st rfl rfl rfl rfl (V_move rfl rfl) ?_
  refine GT_st rfl rfl rfl rfl (V_isF (V_neq rfl rfl rfl) (fun q => q rfl)) ?_
  refine GT_nil ?_
  refine GE_cond_f rfl ?_
  refine GE_skip ?_
  refine GE_seq ?_
  refine GE_plain (.st 0 (.st 1 (.ld 2 [] (.st 3 (.st 4 (.st 5 (.st 6 (.st 7 .nil)))))))) rfl ?_
  refine GT_st rfl rfl rfl rfl (V_move rfl rfl) ?_
  refine GT_st rfl rfl rfl rfl (V_move rfl rfl) ?_
  refine GT_call rfl rfl rfl rfl rfl rfl rfl rfl rn_86 (fun w hw => C_run (hr.sh hw) hc hs hl h0) (fun _ _ => GR_nil) (fun n hn => ?_)
  refine GT_st rfl rfl rfl rfl (V_move rfl rfl) ?_
  refine GT_st rfl rfl rfl rfl (V_extract rfl rfl rfl) ?_
  refine GT_st rfl rfl rfl rfl (V_extract rfl rfl rfl) ?_
  refine GT_st rfl rfl rfl rfl (V_assign rfl rfl) ?_
  refine GT_st rfl rfl rfl rfl (V_assign rfl rfl) ?_
  refine GT_nil ?_
  refine GE_seq ?_
  refine GE_seq ?_
  refine GE_slots (L' := [(0, _), (8, _), (9, _)]) ⟨rfl, rfl, rfl, trivial⟩ ?_
  refine GE_plain (.st 0 (.st 1 .nil)) rfl ?_
  refine GT_st rfl rfl rfl rfl (V_move rfl rfl) ?_
  first | refine GT_st rfl rfl rfl rfl (V_not rfl rfl) ?_ | refine GT_st rfl rfl rfl rfl (V_notB rfl rfl) ?_
  refine GT_nil ?_
  refine GE_cond_f rfl ?_
  refine GE_skip ?_
  refine GE_seq ?_
  refine GE_seq ?_
  refine GE_plain (.st 0 (.st 1 .nil)) rfl ?_
  refine GT_st rfl rfl rfl rfl (V_move rfl rfl) ?_
  refine GT_st rfl rfl rfl rfl (V_isF (V_eql rfl rfl rfl) (fun q => by have := hn.lo; omega)) ?_
  refine GT_nil ?_
  refine GE_cond_f rfl ?_
  refine GE_skip ?_
  refine GE_seq ?_
  refine GE_slots (L' := [(0, _), (8, _)]) ⟨rfl, rfl, trivial⟩ ?_
  refine GE_plain (.st 0 (.st 1 (.ld 2 [] (.st 3 (.st 4 (.st 5 (.st 6 (.st 7 .nil)))))))) rfl ?_
  refine GT_st rfl rfl rfl rfl (V_move rfl rfl) ?_
  refine GT_st rfl rfl rfl rfl (V_move rfl rfl) ?_
  refine GT_call rfl rfl rfl rfl rfl rfl rfl rfl rn_87 (fun w hw => C_places (m := n) (hr.sh hw) hc ⟨hn.lo, hn.hi⟩) (fun _ _ => GR_nil) (fun y hy => ?_)
  refine GT_st rfl rfl rfl rfl (V_move rfl rfl) ?_
  refine GT_st rfl rfl rfl rfl (V_extract rfl rfl rfl) ?_
  refine GT_st rfl rfl rfl rfl (V_extract rfl rfl rfl) ?_
  refine GT_st rfl rfl rfl rfl (V_assign rfl rfl) ?_
  refine GT_st rfl rfl rfl rfl (V_assign rfl rfl) ?_
  refine GT_nil ?_
  refine GE_seq ?_
  refine GE_slots (L' := [(8, _), (10, _)]) ⟨rfl, rfl, trivial⟩ ?_
  refine GE_plain (.st 0 (.st 1 (.st 2 (.st 3 (.st 4 .nil))))) rfl ?_
  refine GT_st rfl rfl rfl rfl (V_move rfl rfl) ?_
  refine GT_st rfl rfl rfl rfl (V_move rfl rfl) ?_
  refine GT_st rfl rfl rfl rfl (V_assign rfl rfl) ?_
  refine GT_st rfl rfl rfl rfl (V_assign rfl rfl) ?_
  refine GT_st rfl rfl rfl rfl (V_assign rfl rfl) ?_
  refine GT_nil ?_
  refine GE_ret Tryz.func36 ⟨_, _, _, rfl, rfl, rfl, rfl⟩ (fun w hw => ?_)
  exact ⟨(n, y), ⟨hn, hy⟩, rfl, hw.hs (C := cx Tryz.prog hm 0 0 _ none' fun _ _ => True) HS.last⟩
end
end Go.Proofs.YtpbflnfcgcldkaaGreatDoor.Slv
/- The examples of layers 6, 8 and 10, walked. -/
namespace Go.Proofs.YtpbflnfcgcldkaaGreatDoor.Wks
open Go.Sx Go.Proofs Go.RowKit
open Side (eN eN_len eN_one getD_memT sh_trans eP2 eP2_len eP2_one)
open Ply Prs Slv
section
variable {w : World}
set_option maxRecDepth 20000 in
theorem C_works06 : Con0 Tryz.prog 62 [] w (.bool true) := by
  refine Ret_of (vs := []) hm none' Tryz.func62 rfl Tryz.ntmps62 rfl ?_
  dsimp only [slotsOf]
  refine GE_seq ?_
  refine GE_plain (.st 0 .nil) rfl ?_
  refine GT_st rfl rfl rfl rfl (V_assign rfl rfl) ?_
  refine GT_nil ?_
  refine GE_seq ?_
  refine GE_plain (.st 0 (.st 1 (.st 2 (.ld 3 [] (.st 4 .nil))))) rfl ?_
  refine GT_st rfl rfl rfl rfl (V_build (vs := [_, _]) rfl rfl zc_261 pl_261 sa_261 rfl) ?_
  refine GT_st rfl rfl rfl rfl (V_build (vs := [_, _]) rfl rfl zc_261 pl_261 sa_261 rfl) ?_
  refine GT_st rfl rfl rfl rfl (V_build (vs := [_, _]) rfl rfl zc_261 pl_261 sa_261 rfl) ?_
  refine GT_buildSlice (z := [_, _, _, _, _, _]) rfl rfl rfl rfl rfl Tryz.underlying255 zc_261 sz_261 (by decide) rfl rfl (fun _ => GR_nil) (fun b9 => ?_)
  refine GT_st rfl rfl rfl rfl (V_assign rfl rfl) ?_
  refine GT_nil ?_
  refine GE_seq ?_
  refine GE_slots (L' := [(1, _)]) ⟨rfl, trivial⟩ ?_
  refine GE_plain (.ld 0 [] (.st 1 (.st 2 (.ld 3 [] (.st 4 (.st 5 (.st 6 (.st 7 (.st 8 .nil))))))))) rfl ?_
  refine GT_buildSlice (z := [_, _, _]) rfl rfl rfl rfl rfl Tryz.underlying43 zc_2 sz_2 (by decide) rfl rfl (fun _ => GR_nil) (fun b11 => ?_)
  refine GT_st rfl rfl rfl rfl (V_build (vs := [_]) rfl rfl zc_259 pl_259 sa_259 rfl) ?_
  refine GT_st rfl rfl rfl rfl (V_move rfl rfl) ?_
  refine GT_call rfl rfl rfl rfl rfl rfl rfl rfl rn_112 (fun w hw => C_Read6 (RdL.own' (l := p6) hw eP2_len) (RdL.own' (l := s6) hw eN_len)) (fun _ _ => GR_nil) (fun y hy => ?_)
  refine GT_st rfl rfl rfl rfl (V_move rfl rfl) ?_
  refine GT_st rfl rfl rfl rfl (V_extract rfl rfl rfl) ?_
  refine GT_st rfl rfl rfl rfl (V_extract rfl rfl rfl) ?_
  refine GT_st rfl rfl rfl rfl (V_assign rfl rfl) ?_
  refine GT_st rfl rfl rfl rfl (V_assign rfl rfl) ?_
  refine GT_nil ?_
  refine GE_seq ?_
  refine GE_slots (L' := [(1, _), (2, _), (3, _)]) ⟨rfl, rfl, rfl, trivial⟩ ?_
  refine GE_plain (.st 0 (.ld 1 [] (.st 2 (.st 3 (.st 4 (.ld 5 [] (.ld 6 [] (.st 7 .nil)))))))) rfl ?_
  refine GT_st rfl rfl rfl rfl (V_move rfl rfl) ?_
  refine GT_call0 rfl rfl rfl rfl rfl rfl rfl rfl rn_132 (fun w hw => C_Balance (RdL.own' (l := p6) hw eP2_len)) (GR_nil) ?_
  refine GT_st rfl rfl rfl rfl (V_move rfl rfl) ?_
  refine GT_st rfl rfl rfl rfl (V_extract rfl rfl rfl) ?_
  refine GT_st rfl rfl rfl rfl (V_extract rfl rfl rfl) ?_
  refine GT_alloc rfl rfl rfl rfl rfl zc_287 (fun _ => GR_nil) (fun b4 => ?_)
  refine GT_store (vs := [_, _]) (l' := [_, _]) rfl rfl rfl rfl rfl rfl rfl sz_287 rfl rfl (Nat.le_of_ble_eq_true rfl) rfl (GR_nil) ?_
  refine GT_st rfl rfl rfl rfl (V_assign rfl rfl) ?_
  refine GT_nil ?_
  refine GE_seq ?_
  refine GE_slots (L' := [(2, _), (3, _), (4, _), (5, _)]) ⟨rfl, rfl, rfl, rfl, trivial⟩ ?_
  refine GE_plain (.st 0 (.st 1 (.st 2 (.st 3 (.st 4 (.st 5 (.st 6 (.st 7 (.st 8 (.st 9 (.st 10 (.st 11 (.st 12 (.st 13 (.st 14 (.st 15 (.st 16 (.st 17 (.st 18 (.st 19 (.st 20 (.st 21 (.st 22 (.st 23 (.ld 24 [] (.st 25 (.st 26 .nil))))))))))))))))))))))))))) rfl ?_
  refine GT_st rfl rfl rfl rfl (V_move rfl rfl) ?_
  refine GT_st rfl rfl rfl rfl (V_isT (V_eql rfl rfl rfl) rfl) ?_
  refine GT_st rfl rfl rfl rfl (V_move rfl rfl) ?_
  refine GT_st_g rfl rfl rfl rfl rfl rfl rfl (V_move rfl rfl) ?_
  refine GT_st_g rfl rfl rfl rfl rfl rfl rfl (V_isT (V_eql rfl rfl rfl) rfl) ?_
  refine GT_st rfl rfl rfl rfl (V_pick_t rfl rfl rfl) ?_
  refine GT_st rfl rfl rfl rfl (V_move rfl rfl) ?_
  refine GT_st_g rfl rfl rfl rfl rfl rfl rfl (V_move rfl rfl) ?_
  refine GT_st_g rfl rfl rfl rfl rfl rfl rfl (V_len rfl Tryz.underlying255 rfl) ?_
  refine GT_st_g rfl rfl rfl rfl rfl rfl rfl (V_isT (V_eql rfl rfl rfl) rfl) ?_
  refine GT_st rfl rfl rfl rfl (V_pick_t rfl rfl rfl) ?_
  refine GT_st rfl rfl rfl rfl (V_move rfl rfl) ?_
  refine GT_st_g rfl rfl rfl rfl rfl rfl rfl (V_move rfl rfl) ?_
  refine GT_st_g rfl rfl rfl rfl rfl rfl rfl (V_index (k := 1) rfl rfl rfl Tryz.underlying255 sz_261 rfl (by decide) (hy.isSome (k := 1) (by decide))) ?_
  refine GT_st_g rfl rfl rfl rfl rfl rfl rfl (V_loadN (vs := [_, _]) rfl rfl ag_261 sz_261 rfl (CellsAt.ownE hy eP2_len (k := 1) (by decide) rfl)) ?_
  refine GT_st_g rfl rfl rfl rfl rfl rfl rfl (V_build (vs := [_, _]) rfl rfl zc_261 pl_261 sa_261 rfl) ?_
  refine GT_st_g rfl rfl rfl rfl rfl rfl rfl (V_isT (V_eqlInts (zs := [-97, 90]) (zs' := [-97, 90]) rfl rfl rfl is_261 rfl rfl) rfl) ?_
  refine GT_st rfl rfl rfl rfl (V_pick_t rfl rfl rfl) ?_
  refine GT_st rfl rfl rfl rfl (V_move rfl rfl) ?_
  refine GT_st_g rfl rfl rfl rfl rfl rfl rfl (V_loadN (vs := [_, _]) rfl rfl ag_287 sz_287 rfl (CellsAt.item rfl)) ?_
  refine GT_st_g rfl rfl rfl rfl rfl rfl rfl (V_build (vs := [_, _]) rfl rfl zc_287 pl_287 sa_287 rfl) ?_
  refine GT_st_g rfl rfl rfl rfl rfl rfl rfl (V_isT (V_eqlInts (zs := [0, 25]) (zs' := [0, 25]) rfl rfl rfl is_287 rfl rfl) rfl) ?_
  refine GT_st rfl rfl rfl rfl (V_pick_t rfl rfl rfl) ?_
  refine GT_st rfl rfl rfl rfl (V_move rfl rfl) ?_
  refine GT_call0_g rfl rfl rfl rfl rfl rfl rfl rfl rfl rfl rfl rn_133 (fun w hw => Side.C_works04) (GR_nil) ?_
  refine GT_st rfl rfl rfl rfl (V_pick_t rfl rfl rfl) ?_
  refine GT_st rfl rfl rfl rfl (V_assign rfl rfl) ?_
  refine GT_nil ?_
  refine GE_ret Tryz.func62 rfl (fun w hw => ⟨?_, hw.nil⟩)
  rfl
def m8 : Mch := ⟨20, 120, 50, 200, 30, 25, 5, 3, 2⟩
theorem m8_ok : m8.Ok := ⟨by decide, by decide, by decide, by decide, by decide, by decide, by decide, by decide, by decide⟩
def b8 : Blr := ⟨2, 1, 3, 4⟩
theorem b8_ok : b8.Ok := ⟨by decide, by decide, by decide, by decide⟩
theorem st8 : stS b8 4 = [0, 3, 7, 10] := by kernel_rfl
theorem C_Starts8 : Con Tryz.prog 61 [I 2, I 1, I 3, I 4, I 4] w (fun y : Option Addr × Nat × Items => Own 1 2 eN [0, 3, 7, 10] (.slice y.1 4 y.2.1) y.2.2) (fun y => .tuple #[.slice y.1 4 y.2.1, I 0]) (fun y => y.2.2) := by
  have h := C_Starts (w := w) (b := b8) (n := 4) b8_ok (by decide)
  rw [st8] at h
  exact h
set_option maxRecDepth 20000 in
theorem C_works08 : Con0 Tryz.prog 22 [] w (.bool true) := by
  refine Ret_of (vs := []) hm none' Tryz.func22 rfl Tryz.ntmps22 rfl ?_
  dsimp only [slotsOf]
  refine GE_seq ?_
  refine GE_plain (.st 0 .nil) rfl ?_
  refine GT_st rfl rfl rfl rfl (V_assign rfl rfl) ?_
  refine GT_nil ?_
  refine GE_seq ?_
  refine GE_plain (.st 0 (.ld 1 [] (.ld 2 [] .nil))) rfl ?_
  refine GT_st rfl rfl rfl rfl (V_build (vs := [_, _, _, _, _, _, _, _, _]) rfl rfl zc_58 pl_58 sa_58 rfl) ?_
  refine GT_alloc rfl rfl rfl rfl rfl zc_58 (fun _ => GR_nil) (fun b1 => ?_)
  refine GT_store (vs := [_, _, _, _, _, _, _, _, _]) (l' := [_, _, _, _, _, _, _, _, _]) rfl rfl rfl rfl rfl rfl rfl sz_58 rfl rfl (Nat.le_of_ble_eq_true rfl) rfl (GR_nil) ?_
  refine GT_nil ?_
  refine GE_seq ?_
  refine GE_plain (.st 0 (.ld 1 [] (.st 2 (.st 3 (.st 4 (.st 5 (.st 6 .nil))))))) rfl ?_
  refine GT_st rfl rfl rfl rfl (V_loadN (vs := [_, _, _, _, _, _, _, _, _]) rfl rfl ag_58 sz_58 rfl (CellsAt.item rfl)) ?_
  refine GT_call0 rfl rfl rfl rfl rfl rfl rfl rfl rn_47 (fun w hw => C_Tick (m := m8) (t := 190) (v := 1) m8_ok (by decide) (by decide)) (GR_nil) ?_
  refine GT_st rfl rfl rfl rfl (V_move rfl rfl) ?_
  refine GT_st rfl rfl rfl rfl (V_extract rfl rfl rfl) ?_
  refine GT_st rfl rfl rfl rfl (V_extract rfl rfl rfl) ?_
  refine GT_st rfl rfl rfl rfl (V_assign rfl rfl) ?_
  refine GT_st rfl rfl rfl rfl (V_assign rfl rfl) ?_
  refine GT_nil ?_
  refine GE_seq ?_
  refine GE_slots (L' := [(2, _), (3, _)]) ⟨rfl, rfl, trivial⟩ ?_
  refine GE_plain (.ld 0 [] (.st 1 (.st 2 (.st 3 (.st 4 (.st 5 .nil)))))) rfl ?_
  refine GT_call rfl rfl rfl rfl rfl rfl rfl rfl rn_61 (fun w hw => C_Starts8) (fun _ _ => GR_nil) (fun y hy => ?_)
  refine GT_st rfl rfl rfl rfl (V_move rfl rfl) ?_
  refine GT_st rfl rfl rfl rfl (V_extract rfl rfl rfl) ?_
  refine GT_st rfl rfl rfl rfl (V_extract rfl rfl rfl) ?_
  refine GT_st rfl rfl rfl rfl (V_assign rfl rfl) ?_
  refine GT_st rfl rfl rfl rfl (V_assign rfl rfl) ?_
  refine GT_nil ?_
  refine GE_seq ?_
  refine GE_slots (L' := [(2, _), (3, _), (4, _), (5, _)]) ⟨rfl, rfl, rfl, rfl, trivial⟩ ?_
  refine GE_plain (.st 0 (.st 1 (.st 2 (.st 3 (.st 4 (.st 5 (.st 6 (.st 7 (.st 8 (.st 9 (.st 10 (.st 11 (.st 12 (.st 13 (.st 14 (.st 15 (.st 16 (.st 17 (.st 18 (.st 19 (.st 20 (.st 21 (.ld 22 [] (.st 23 (.st 24 .nil))))))))))))))))))))))))) rfl ?_
  refine GT_st rfl rfl rfl rfl (V_move rfl rfl) ?_
  refine GT_st rfl rfl rfl rfl (V_isT (V_eql rfl rfl rfl) rfl) ?_
  refine GT_st rfl rfl rfl rfl (V_move rfl rfl) ?_
  refine GT_st_g rfl rfl rfl rfl rfl rfl rfl (V_move rfl rfl) ?_
  refine GT_st_g rfl rfl rfl rfl rfl rfl rfl (V_isT (V_eql rfl rfl rfl) rfl) ?_
  refine GT_st rfl rfl rfl rfl (V_pick_t rfl rfl rfl) ?_
  refine GT_st rfl rfl rfl rfl (V_move rfl rfl) ?_
  refine GT_st_g rfl rfl rfl rfl rfl rfl rfl (V_move rfl rfl) ?_
  refine GT_st_g rfl rfl rfl rfl rfl rfl rfl (V_isT (V_eql rfl rfl rfl) (by decide)) ?_
  refine GT_st rfl rfl rfl rfl (V_pick_t rfl rfl rfl) ?_
  refine GT_st rfl rfl rfl rfl (V_move rfl rfl) ?_
  refine GT_st_g rfl rfl rfl rfl rfl rfl rfl (V_move rfl rfl) ?_
  refine GT_st_g rfl rfl rfl rfl rfl rfl rfl (V_len rfl Tryz.underlying43 rfl) ?_
  refine GT_st_g rfl rfl rfl rfl rfl rfl rfl (V_isT (V_eql rfl rfl rfl) rfl) ?_
  refine GT_st rfl rfl rfl rfl (V_pick_t rfl rfl rfl) ?_
  refine GT_st rfl rfl rfl rfl (V_move rfl rfl) ?_
  refine GT_st_g rfl rfl rfl rfl rfl rfl rfl (V_move rfl rfl) ?_
  refine GT_st_g rfl rfl rfl rfl rfl rfl rfl (V_index (k := 3) rfl rfl rfl Tryz.underlying43 sz_2 rfl (by decide) (hy.isSome (k := 3) (by decide))) ?_
  refine GT_st_g rfl rfl rfl rfl rfl rfl rfl (V_load rfl rfl ag_2 (CellAt.own0 hy eN_len (k := 3) (by decide) rfl)) ?_
  refine GT_st_g rfl rfl rfl rfl rfl rfl rfl (V_isT (V_eql rfl rfl rfl) rfl) ?_
  refine GT_st rfl rfl rfl rfl (V_pick_t rfl rfl rfl) ?_
  refine GT_st rfl rfl rfl rfl (V_move rfl rfl) ?_
  refine GT_call0_g rfl rfl rfl rfl rfl rfl rfl rfl rfl rfl rfl rn_62 (fun w hw => C_works06) (GR_nil) ?_
  refine GT_st rfl rfl rfl rfl (V_pick_t rfl rfl rfl) ?_
  refine GT_st rfl rfl rfl rfl (V_assign rfl rfl) ?_
  refine GT_nil ?_
  refine GE_ret Tryz.func22 rfl (fun w hw => ⟨?_, hw.nil⟩)
  rfl
theorem fo_ok : FoldsOk [1, 2] := ⟨by decide, by decide, by decide⟩
theorem pg10 : pageN [1, 2] 0 1 true = some 4 := by kernel_rfl
theorem C_Page10 {A : Option Addr} {c : Nat} (hG : GrowsAt w) (hr : RdL w 1 eN A [1, 2]) : Con0 Tryz.prog 44 [.slice A 2 c, I 0, I 1, .bool true] w (.tuple #[I 5, I 0]) := by
  have h := C_Page (c := c) (r := 0) (cc := 1) (bk := true) hG fo_ok hr
  rw [pg10] at h
  exact h
theorem run10 {n : Int} (h : Lst [1000, 300] 8 n) : n = 167 := by
  refine h.uniq ⟨by decide, by decide, by decide, fun m h1 h2 => ?_⟩
  have := rsum_anti (l := [1000, 300]) (by decide) h1 (show m ≤ 166 by omega)
  have e : rsum [1000, 300] 166 = 9 := by decide
  omega
set_option maxRecDepth 20000 in
theorem C_works10 (hG : GrowsAt w) : Con0 Tryz.prog 30 [] w (.bool true) := by
  refine Ret_of (vs := []) hm none' Tryz.func30 rfl Tryz.ntmps30 rfl ?_
  dsimp only [slotsOf]
  refine GE_seq ?_
  refine GE_plain (.st 0 .nil) rfl ?_
  refine GT_st rfl rfl rfl rfl (V_assign rfl rfl) ?_
  refine GT_nil ?_
  refine GE_seq ?_
  refine GE_plain (.ld 0 [] (.ld 1 [] (.st 2 (.st 3 (.st 4 (.st 5 (.st 6 .nil))))))) rfl ?_
  refine GT_buildSlice (z := [_, _]) rfl rfl rfl rfl rfl Tryz.underlying38 zc_3 sz_3 (by decide) rfl rfl (fun _ => GR_nil) (fun b7 => ?_)
  refine GT_call0 rfl rfl rfl rfl rfl rfl rfl rfl rn_44 (fun w hw => C_Page10 (hG.sh hw) (RdL.own' (l := [1, 2]) hw eN_len)) (GR_nil) ?_
  refine GT_st rfl rfl rfl rfl (V_move rfl rfl) ?_
  refine GT_st rfl rfl rfl rfl (V_extract rfl rfl rfl) ?_
  refine GT_st rfl rfl rfl rfl (V_extract rfl rfl rfl) ?_
  refine GT_st rfl rfl rfl rfl (V_assign rfl rfl) ?_
  refine GT_st rfl rfl rfl rfl (V_assign rfl rfl) ?_
  refine GT_nil ?_
  refine GE_seq ?_
  refine GE_slots (L' := [(1, _), (2, _)]) ⟨rfl, rfl, trivial⟩ ?_
  refine GE_plain (.ld 0 [] (.ld 1 [] (.st 2 (.st 3 (.st 4 (.st 5 (.st 6 (.st 7 (.st 8 .nil))))))))) rfl ?_
  refine GT_buildSlice (z := [_, _]) rfl rfl rfl rfl rfl Tryz.underlying43 zc_2 sz_2 (by decide) rfl rfl (fun _ => GR_nil) (fun b12 => ?_)
  refine GT_call rfl rfl rfl rfl rfl rfl rfl rfl rn_36 (fun w hw => C_Run (l := [1000, 300]) (s := 8) (RdL.own' (l := [1000, 300]) hw eN_len) ⟨by decide, by decide⟩ (by decide) (by decide) (by decide)) (fun _ _ => GR_nil) (fun y hy => ?_)
  obtain ⟨n, y⟩ := y; obtain rfl := run10 hy.1
  refine GT_st rfl rfl rfl rfl (V_move rfl rfl) ?_
  refine GT_st rfl rfl rfl rfl (V_extract rfl rfl rfl) ?_
  refine GT_st rfl rfl rfl rfl (V_extract rfl rfl rfl) ?_
  refine GT_st rfl rfl rfl rfl (V_extract rfl rfl rfl) ?_
  refine GT_st rfl rfl rfl rfl (V_assign rfl rfl) ?_
  refine GT_st rfl rfl rfl rfl (V_assign rfl rfl) ?_
  refine GT_st rfl rfl rfl rfl (V_assign rfl rfl) ?_
  refine GT_nil ?_
  refine GE_seq ?_
  refine GE_slots (L' := [(1, _), (2, _), (3, _), (5, _)]) ⟨rfl, rfl, rfl, rfl, trivial⟩ ?_
  refine GE_plain (.st 0 (.st 1 (.st 2 (.st 3 (.st 4 (.st 5 (.st 6 (.st 7 (.st 8 (.st 9 (.st 10 (.st 11 (.st 12 (.st 13 (.st 14 (.ld 15 [] (.st 16 (.st 17 .nil)))))))))))))))))) rfl ?_
  refine GT_st rfl rfl rfl rfl (V_move rfl rfl) ?_
  refine GT_st rfl rfl rfl rfl (V_isT (V_eql rfl rfl rfl) rfl) ?_
  refine GT_st rfl rfl rfl rfl (V_move rfl rfl) ?_
  refine GT_st_g rfl rfl rfl rfl rfl rfl rfl (V_move rfl rfl) ?_
  refine GT_st_g rfl rfl rfl rfl rfl rfl rfl (V_isT (V_eql rfl rfl rfl) rfl) ?_
  refine GT_st rfl rfl rfl rfl (V_pick_t rfl rfl rfl) ?_
  refine GT_st rfl rfl rfl rfl (V_move rfl rfl) ?_
  refine GT_st_g rfl rfl rfl rfl rfl rfl rfl (V_move rfl rfl) ?_
  refine GT_st_g rfl rfl rfl rfl rfl rfl rfl (V_isT (V_eql rfl rfl rfl) rfl) ?_
  refine GT_st rfl rfl rfl rfl (V_pick_t rfl rfl rfl) ?_
  refine GT_st rfl rfl rfl rfl (V_move rfl rfl) ?_
  refine GT_st_g rfl rfl rfl rfl rfl rfl rfl (V_move rfl rfl) ?_
  refine GT_st_g rfl rfl rfl rfl rfl rfl rfl (V_isT (V_eql rfl rfl rfl) rfl) ?_
  refine GT_st rfl rfl rfl rfl (V_pick_t rfl rfl rfl) ?_
  refine GT_st rfl rfl rfl rfl (V_move rfl rfl) ?_
  refine GT_call0_g rfl rfl rfl rfl rfl rfl rfl rfl rfl rfl rfl rn_22 (fun w hw => C_works08) (GR_nil) ?_
  refine GT_st rfl rfl rfl rfl (V_pick_t rfl rfl rfl) ?_
  refine GT_st rfl rfl rfl rfl (V_assign rfl rfl) ?_
  refine GT_nil ?_
  refine GE_ret Tryz.func30 rfl (fun w hw => ⟨?_, hw.nil⟩)
  rfl
end
end Go.Proofs.YtpbflnfcgcldkaaGreatDoor.Wks
/- The law TopPocketed, walked. -/
namespace Go.Proofs.YtpbflnfcgcldkaaGreatDoor.Net
open Go.Sx Go.Proofs Go.RowKit
open Side (getD_memT sh_trans Fmt)
open Slv (GrowsAt)
section
variable {w : World} {A : Option Addr} {c : Nat} {W D E O : Int}
theorem C_PocketN (hr : RdL w 5 ePan A (net W D E O)) (hw : 1 ≤ W ∧ W ≤ 65536) (hd : 1 ≤ D ∧ D ≤ W) (h : OutOk E O) : Con0 Tryz.prog 31 [.slice A 3 c, I 0, I 1] w (.tuple #[.agg #[I 0, I 0, I W, I W, .bool false], I 0]) := by
  obtain ⟨h1, h2, h3, h4, h5⟩ := net_pocket (d := D) h hw.1
  have q := C_Pocket (c := c) hr (net_ok hw hd h) (by show 2 ≤ 3; decide) h1
  rw [h2, h3, h4, h5, Int.zero_add] at q
  exact q
theorem C_LayersN {x y : Int} (hr : RdL w 5 ePan A (net W D E O)) (hw : 1 ≤ W ∧ W ≤ 65536) (hd : 1 ≤ D ∧ D ≤ W) (h : OutOk E O) (hx : 0 ≤ x ∧ x < W) (hy : 0 ≤ y ∧ y < W) : Con0 Tryz.prog 33 [.slice A 3 c, I x, I y] w (.tuple #[I (2 + if inB (fld (net W D E O) 2) x y then 1 else 0), I 0]) := by
  have q := C_Layers (c := c) (x := x) (y := y) hr (net_ok hw hd h)
  rw [show (net W D E O).length = 3 from rfl, net_layers h hx hy] at q
  exact q
theorem C_FoldedN (hr : RdL w 5 ePan A (net W D E O)) (hw : 1 ≤ W ∧ W ≤ 65536) (hd : 1 ≤ D ∧ D ≤ W) (h : OutOk E O) : Con Tryz.prog 32 [.slice A 3 c] w (fun y : Option Addr × Nat × Items => Own 5 85 eBox (folded (net W D E O)) (.slice y.1 3 y.2.1) y.2.2) (fun y => .tuple #[.slice y.1 3 y.2.1, I 0]) (fun y => y.2.2) := by
  have q := C_Folded (c := c) hr (net_ok hw hd h)
  rw [folded_len, show (net W D E O).length = 3 from rfl] at q
  exact q
theorem lay23 (Q : Box) (x y : Int) : (2 : Int) + (if inB Q x y then 1 else 0) = 2 ∨ (2 : Int) + (if inB Q x y then 1 else 0) = 3 := by split <;> omega
theorem lay3 (Q : Box) (x y : Int) : decide ((2 : Int) + (if inB Q x y then 1 else 0) = 3) = decide (inB Q x y) := by
  by_cases h : inB Q x y
  · rw [if_pos h, decide_eq_true h]; rfl
  · rw [if_neg h, decide_eq_false h]; rfl
theorem ip_85 : isPrims Tryz.prog 85 5 = true := by kernel_rfl
theorem mul_of {a b c d : Int} (h : (a = c ∧ b = d) ∨ (a = d ∧ b = c)) : a * b = c * d := by
  rcases h with ⟨rfl, rfl⟩ | ⟨rfl, rfl⟩
  · rfl
  · exact Int.mul_comm ..
set_option maxRecDepth 20000 in
set_option maxHeartbeats 4000000 in
theorem C_TopPocketed {f : Fmt} {more edge flap deep a0 a1 : Int} (hG : GrowsAt w) (h1 : 0 ≤ more ∧ more ≤ 255) (h2 : 0 ≤ edge ∧ edge ≤ 255) (h3 : 0 ≤ flap ∧ flap ≤ 255) (h4 : 0 ≤ deep ∧ deep ≤ 65535) (h5 : 0 ≤ a0 ∧ a0 ≤ 65535) (h6 : 0 ≤ a1 ∧ a1 ≤ 65535) :
    Con0 Tryz.prog 5 [f.val, .int .u8 more, .int .u8 edge, .int .u8 flap, .int .u16 deep, .agg #[.int .u16 a0, .int .u16 a1]] w (.bool true) := by
  refine Ret_of (vs := [_, _, _, _, _, _]) hm none' Tryz.func5 rfl Tryz.ntmps5 rfl ?_
  dsimp only [slotsOf]
  refine GE_seq ?_
  refine GE_plain (.ld 0 [] (.ld 1 [] (.st 2 .nil))) rfl ?_
  refine GT_box (z := [_, _, _, _, _, _, _, _]) rfl rfl rfl rfl rfl rfl rfl (fun _ => GR_nil) (fun b6 => ?_)
  refine GT_box (z := [_, _]) rfl rfl rfl rfl rfl rfl rfl (fun _ => GR_nil) (fun b11 => ?_)
  refine GT_st rfl rfl rfl rfl (V_assign rfl rfl) ?_
  refine GT_nil ?_
  refine GE_seq ?_
  refine GE_seq ?_
  refine GE_plain (.st 0 (.ld 1 [] (.st 2 (.st 3 (.st 4 (.st 5 (.st 6 (.st 7 .nil)))))))) rfl ?_
  refine GT_st rfl rfl rfl rfl (V_loadN (vs := [_, _, _, _, _, _, _, _]) rfl rfl ag_77 sz_77 rfl (CellsAt.item rfl)) ?_
  refine GT_call rfl rfl rfl rfl rfl rfl rfl rfl rn_29 (fun w hw => Side.C_refFormat (f := f)) (fun _ _ => GR_nil) (fun e he => ?_)
  refine GT_st rfl rfl rfl rfl (V_neq rfl rfl rfl) ?_
  refine GT_st rfl rfl rfl rfl (V_move rfl rfl) ?_
  first | refine GT_splitNot (d := 30) rfl (fun q1 => ?_) (fun q1 => ?_) | refine GT_split (d := 30) rfl (fun q1 => ?_) (fun q1 => ?_) | refine GT_splitNotB (d := 30) rfl (fun q1 => ?_) (fun q1 => ?_) | refine GT_splitB (d := 30) rfl (fun q1 => ?_) (fun q1 => ?_)
  · skip
    refine GT_skip rfl rfl rfl rfl rfl (by decide) rfl rfl ?_
    refine GT_skip rfl rfl rfl rfl rfl (by decide) rfl rfl ?_
    refine GT_skip rfl rfl rfl rfl rfl (by decide) rfl rfl ?_
    refine GT_st rfl rfl rfl rfl (V_pick_t rfl rfl rfl) ?_
    refine GT_nil ?_
    refine GE_cond_t rfl ?_
    refine GE_seq ?_
    refine GE_slots (L' := []) trivial ?_
    refine GE_plain (.ld 0 [] (.st 1 .nil)) rfl ?_
    refine GT_call0 rfl rfl rfl rfl rfl rfl rfl rfl rn_30 (fun w hw => Wks.C_works10 (hG.sh hw)) (GR_nil) ?_
    refine GT_st rfl rfl rfl rfl (V_assign rfl rfl) ?_
    refine GT_nil ?_
    refine GE_ret Tryz.func5 rfl (fun w hw => ⟨?_, hw.nil⟩)
    rfl
  · skip
    first | refine GT_st_g rfl rfl rfl rfl rfl rfl rfl (V_field rfl rfl fo_77_1) ?_ | refine GT_st_g rfl rfl rfl rfl rfl rfl rfl (V_fieldA rfl rfl fo_77_1) ?_
    refine GT_st_g rfl rfl rfl rfl rfl rfl rfl (V_load rfl rfl ag_2 (CellAt.item rfl)) ?_
    refine GT_st_g rfl rfl rfl rfl rfl rfl rfl (V_gtr rfl rfl rfl) ?_
    refine GT_st rfl rfl rfl rfl (V_pick_f rfl rfl rfl) ?_
    refine GT_nil ?_
    first | refine GE_condNot rfl (fun q2 => ?_) (fun q2 => ?_) | refine GE_cond rfl (fun q2 => ?_) (fun q2 => ?_) | refine GE_condNotB rfl (fun q2 => ?_) (fun q2 => ?_) | refine GE_condB rfl (fun q2 => ?_) (fun q2 => ?_)
    · skip
      refine GE_seq ?_
      refine GE_slots (L' := []) trivial ?_
      refine GE_plain (.ld 0 [] (.st 1 .nil)) rfl ?_
      refine GT_call0 rfl rfl rfl rfl rfl rfl rfl rfl rn_30 (fun w hw => Wks.C_works10 (hG.sh hw)) (GR_nil) ?_
      refine GT_st rfl rfl rfl rfl (V_assign rfl rfl) ?_
      refine GT_nil ?_
      refine GE_ret Tryz.func5 rfl (fun w hw => ⟨?_, hw.nil⟩)
      rfl
    · have hF := he q1
      refine GE_skip ?_
      refine GE_seq ?_
      refine GE_slots (L' := [(1, _), (2, _), (3, _), (4, _), (6, _), (11, _)]) ⟨rfl, rfl, rfl, rfl, rfl, rfl, trivial⟩ ?_
      refine GE_plain (.st 0 (.st 1 (.st 2 (.st 3 (.st 4 (.st 5 (.st 6 .nil))))))) rfl ?_
      first | refine GT_st rfl rfl rfl rfl (V_field rfl rfl fo_77_1) ?_ | refine GT_st rfl rfl rfl rfl (V_fieldA rfl rfl fo_77_1) ?_
      refine GT_st rfl rfl rfl rfl (V_load rfl rfl ag_2 (CellAt.item rfl)) ?_
      refine GT_st rfl rfl rfl rfl (V_mul rfl rfl rfl ((wrap_i64 (by have := hF.outer; omega)))) ?_
      refine GT_st rfl rfl rfl rfl (V_move rfl rfl) ?_
      refine GT_st rfl rfl rfl rfl (V_convII rfl rfl (by rw [Tryz.underlying5]; rfl) Tryz.underlying2 (wrap_i64 (by omega))) ?_
      refine GT_st rfl rfl rfl rfl (V_add rfl rfl rfl ((wrap_i64 (by have := hF.outer; omega)))) ?_
      refine GT_st rfl rfl rfl rfl (V_assign rfl rfl) ?_
      refine GT_nil ?_
      refine GE_seq ?_
      refine GE_slots (L' := [(2, _), (3, _), (4, _), (11, _), (13, _)]) ⟨rfl, rfl, rfl, rfl, rfl, trivial⟩ ?_
      have hou := hF.outer; generalize hW : 2 * f.outer + more = W at *; have hw2 : 2 ≤ W ∧ W ≤ 65536 := (by omega); have hw1 : 1 ≤ W ∧ W ≤ 65536 := (by omega)
      refine GE_plain (.st 0 (.st 1 (.st 2 (.st 3 (.st 4 (.st 5 (.ld 6 [] (.ld 7 [] .nil)))))))) rfl ?_
      refine GT_st rfl rfl rfl rfl (V_move rfl rfl) ?_
      refine GT_st rfl rfl rfl rfl (V_convII rfl rfl (by rw [Tryz.underlying5]; rfl) Tryz.underlying3 (wrap_i64 (by omega))) ?_
      refine GT_st rfl rfl rfl rfl (V_eqv (V_rem rfl rfl rfl (by omega)) (congrArg I (show _ = edge % 4 from Int.tmod_eq_emod_of_nonneg (by omega)))) ?_
      refine GT_st rfl rfl rfl rfl (V_move rfl rfl) ?_
      refine GT_st rfl rfl rfl rfl (V_move rfl rfl) ?_
      refine GT_st rfl rfl rfl rfl (V_build (vs := [_, _, _, _, _]) rfl rfl zc_82 pl_82 sa_82 rfl) ?_
      refine GT_alloc rfl rfl rfl rfl rfl zc_82 (fun _ => GR_nil) (fun b14 => ?_)
      refine GT_store (vs := [_, _, _, _, _]) (l' := [_, _, _, _, _]) rfl rfl rfl rfl rfl rfl rfl sz_82 rfl rfl (Nat.le_of_ble_eq_true rfl) rfl (GR_nil) ?_
      refine GT_nil ?_
      refine GE_seq ?_
      refine GE_slots (L' := [(2, _), (3, _), (4, _), (11, _), (13, _), (14, _)]) ⟨rfl, rfl, rfl, rfl, rfl, rfl, trivial⟩ ?_
      refine GE_plain (.st 0 (.st 1 (.st 2 (.st 3 (.st 4 (.st 5 (.st 6 (.st 7 (.st 8 .nil))))))))) rfl ?_
      refine GT_st rfl rfl rfl rfl (V_move rfl rfl) ?_
      refine GT_st rfl rfl rfl rfl (V_convII rfl rfl (by rw [Tryz.underlying5]; rfl) Tryz.underlying3 (wrap_i64 (by omega))) ?_
      refine GT_st rfl rfl rfl rfl (V_add rfl rfl rfl (wrap_i64 (by omega))) ?_
      refine GT_st rfl rfl rfl rfl (V_move rfl rfl) ?_
      refine GT_st rfl rfl rfl rfl (V_convII rfl rfl (by rw [Tryz.underlying5]; rfl) Tryz.underlying3 (wrap_i64 (by omega))) ?_
      refine GT_st rfl rfl rfl rfl (V_eqv (V_rem rfl rfl rfl (by omega)) (congrArg I (show _ = flap % 3 from Int.tmod_eq_emod_of_nonneg (by omega)))) ?_
      refine GT_st rfl rfl rfl rfl (V_add rfl rfl rfl (wrap_i64 (by omega))) ?_
      refine GT_st rfl rfl rfl rfl (V_eqv (V_rem rfl rfl rfl (by omega)) (congrArg I (show _ = (edge + 3 + flap % 3) % 4 from Int.tmod_eq_emod_of_nonneg (by omega)))) ?_
      refine GT_st rfl rfl rfl rfl (V_assign rfl rfl) ?_
      refine GT_nil ?_
      refine GE_seq ?_
      refine GE_slots (L' := [(4, _), (11, _), (13, _), (14, _), (15, _)]) ⟨rfl, rfl, rfl, rfl, rfl, trivial⟩ ?_
      refine GE_plain (.st 0 (.st 1 (.st 2 (.st 3 (.st 4 (.st 5 .nil)))))) rfl ?_
      refine GT_st rfl rfl rfl rfl (V_move rfl rfl) ?_
      refine GT_st rfl rfl rfl rfl (V_convII rfl rfl (by rw [Tryz.underlying78]; rfl) Tryz.underlying2 (wrap_i64 (by omega))) ?_
      refine GT_st rfl rfl rfl rfl (V_move rfl rfl) ?_
      refine GT_st rfl rfl rfl rfl (V_eqv (V_rem rfl rfl rfl (by omega)) (congrArg I (show _ = deep % W from Int.tmod_eq_emod_of_nonneg (by omega)))) ?_
      refine GT_st rfl rfl rfl rfl (V_add rfl rfl rfl ((wrap_i64 (by have := Int.emod_lt_of_pos deep (show 0 < W by omega); have := Int.emod_nonneg deep (show W ≠ 0 by omega); omega)))) ?_
      refine GT_st rfl rfl rfl rfl (V_assign rfl rfl) ?_
      refine GT_nil ?_
      refine GE_seq ?_
      refine GE_slots (L' := [(11, _), (13, _), (14, _), (15, _), (16, _)]) ⟨rfl, rfl, rfl, rfl, rfl, trivial⟩ ?_
      have hd1 := Int.emod_lt_of_pos deep (show 0 < W by omega); have hd2 := Int.emod_nonneg deep (show W ≠ 0 by omega); generalize hD : 1 + deep % W = D at *; have hdd : 1 ≤ D ∧ D ≤ W := (by omega); clear hd1 hd2; have hoo : OutOk (edge % 4) ((edge + 3 + flap % 3) % 4) := (by unfold OutOk; omega); generalize hE : edge % 4 = E at *; generalize hO : (edge + 3 + flap % 3) % 4 = O at *; have hor : 0 ≤ O ∧ O ≤ 3 := (by omega)
      refine GE_plain (.st 0 (.st 1 (.st 2 (.st 3 (.ld 4 [] (.ld 5 [] .nil)))))) rfl ?_
      refine GT_st rfl rfl rfl rfl (V_move rfl rfl) ?_
      refine GT_st rfl rfl rfl rfl (V_move rfl rfl) ?_
      refine GT_st rfl rfl rfl rfl (V_move rfl rfl) ?_
      refine GT_st rfl rfl rfl rfl (V_build (vs := [_, _, _, _, _]) rfl rfl zc_82 pl_82 sa_82 rfl) ?_
      refine GT_alloc rfl rfl rfl rfl rfl zc_82 (fun _ => GR_nil) (fun b17 => ?_)
      refine GT_store (vs := [_, _, _, _, _]) (l' := [_, _, _, _, _]) rfl rfl rfl rfl rfl rfl rfl sz_82 rfl rfl (Nat.le_of_ble_eq_true rfl) rfl (GR_nil) ?_
      refine GT_nil ?_
      refine GE_cut (ι := Unit) (fun _ => [(11, ptr b11 0), (13, I W), (14, ptr b14 0), (16, I D), (17, ptr b17 0)]) (fun _ => (b17, blk (ePan (flapP W D O)) 82) :: (b14, blk (ePan ⟨0, E, 0, W, W⟩) 82) :: (b11, blk [.int .u16 a0, .int .u16 a1] 79) :: []) (fun _ => True) ?_ (fun hk => ?_)
      · intro _ hx
        have hfl := fld2_is hdd hoo; have hg2 : (folded (net W D E O)).getD 2 default = fld (net W D E O) 2 := folded_get (by show 2 < 3; decide); have hg1 : (folded (net W D E O)).getD 1 default = ⟨0, 0, W, W, true⟩ := (folded_get (by show 1 < 3; decide)).trans (fld1_is hoo); obtain ⟨f1, f2, f3, f4⟩ := hfl; generalize hq : fld (net W D E O) 2 = Q at *; have hl3 : (folded (net W D E O)).length = 3 := folded_len _
        refine GE_seq ?_
        refine GE_plain (.st 0 (.st 1 (.st 2 (.st 3 (.st 4 (.ld 5 [] (.st 6 .nil))))))) rfl ?_
        refine GT_st rfl rfl rfl rfl (V_move rfl rfl) ?_
        refine GT_st rfl rfl rfl rfl (V_move rfl rfl) ?_
        refine GT_st rfl rfl rfl rfl (V_build (vs := [_, _, _, _, _]) rfl rfl zc_82 pl_82 sa_82 rfl) ?_
        refine GT_st rfl rfl rfl rfl (V_loadN (vs := [_, _, _, _, _]) rfl rfl ag_82 sz_82 rfl (CellsAt.item rfl)) ?_
        refine GT_st rfl rfl rfl rfl (V_loadN (vs := [_, _, _, _, _]) rfl rfl ag_82 sz_82 rfl (CellsAt.item rfl)) ?_
        refine GT_buildSlice (z := [_, _, _, _, _, _, _, _, _, _, _, _, _, _, _]) rfl rfl rfl rfl rfl Tryz.underlying83 zc_82 sz_82 (by decide) rfl rfl (fun _ => GR_nil) (fun b77 => ?_)
        refine GT_st rfl rfl rfl rfl (V_assign rfl rfl) ?_
        refine GT_nil ?_
        refine GE_seq ?_
        refine GE_slots (L' := [(11, _), (13, _), (16, _), (18, _)]) ⟨rfl, rfl, rfl, rfl, trivial⟩ ?_
        refine GE_plain (.st 0 (.ld 1 [] (.st 2 (.st 3 (.st 4 (.ld 5 [] (.ld 6 [] (.st 7 .nil)))))))) rfl ?_
        refine GT_st rfl rfl rfl rfl (V_move rfl rfl) ?_
        refine GT_call0 rfl rfl rfl rfl rfl rfl rfl rfl rn_31 (fun w hw => C_PocketN (W := W) (D := D) (E := E) (O := O) (RdL.own' hw ePan_len) hw1 hdd hoo) (GR_nil) ?_
        refine GT_st rfl rfl rfl rfl (V_move rfl rfl) ?_
        refine GT_st rfl rfl rfl rfl (V_extract rfl rfl rfl) ?_
        refine GT_st rfl rfl rfl rfl (V_extract rfl rfl rfl) ?_
        refine GT_alloc rfl rfl rfl rfl rfl zc_85 (fun _ => GR_nil) (fun b19 => ?_)
        refine GT_store (vs := [_, _, _, _, _]) (l' := [_, _, _, _, _]) rfl rfl rfl rfl rfl rfl rfl sz_85 rfl rfl (Nat.le_of_ble_eq_true rfl) rfl (GR_nil) ?_
        refine GT_st rfl rfl rfl rfl (V_assign rfl rfl) ?_
        refine GT_nil ?_
        refine GE_seq ?_
        refine GE_slots (L' := [(11, _), (13, _), (16, _), (18, _), (19, _), (20, _)]) ⟨rfl, rfl, rfl, rfl, rfl, rfl, trivial⟩ ?_
        refine GE_plain (.st 0 (.ld 1 [] (.st 2 (.st 3 (.st 4 (.st 5 (.st 6 .nil))))))) rfl ?_
        refine GT_st rfl rfl rfl rfl (V_move rfl rfl) ?_
        refine GT_call rfl rfl rfl rfl rfl rfl rfl rfl rn_32 (fun w hw => C_FoldedN (W := W) (D := D) (E := E) (O := O) (RdL.own' hw ePan_len) hw1 hdd hoo) (fun _ _ => GR_nil) (fun y hy => ?_)
        refine GT_st rfl rfl rfl rfl (V_move rfl rfl) ?_
        refine GT_st rfl rfl rfl rfl (V_extract rfl rfl rfl) ?_
        refine GT_st rfl rfl rfl rfl (V_extract rfl rfl rfl) ?_
        refine GT_st rfl rfl rfl rfl (V_assign rfl rfl) ?_
        refine GT_st rfl rfl rfl rfl (V_assign rfl rfl) ?_
        refine GT_nil ?_
        refine GE_seq ?_
        refine GE_seq ?_
        refine GE_slots (L' := [(11, _), (13, _), (16, _), (18, _), (19, _), (20, _), (21, _), (22, _)]) ⟨rfl, rfl, rfl, rfl, rfl, rfl, rfl, rfl, trivial⟩ ?_
        refine GE_plain (.st 0 (.st 1 (.st 2 (.st 3 (.st 4 (.st 5 (.st 6 (.st 7 (.st 8 (.st 9 (.st 10 (.st 11 (.st 12 (.st 13 (.st 14 (.st 15 (.st 16 (.st 17 (.st 18 (.st 19 (.st 20 (.st 21 (.st 22 (.st 23 (.st 24 (.st 25 (.st 26 (.st 27 (.st 28 (.st 29 (.st 30 .nil))))))))))))))))))))))))))))))) rfl ?_
        refine GT_st rfl rfl rfl rfl (V_move rfl rfl) ?_
        refine GT_st rfl rfl rfl rfl (V_isF (V_neq rfl rfl rfl) (fun q => q rfl)) ?_
        refine GT_st rfl rfl rfl rfl (V_move rfl rfl) ?_
        refine GT_st_g rfl rfl rfl rfl rfl rfl rfl (V_move rfl rfl) ?_
        refine GT_st_g rfl rfl rfl rfl rfl rfl rfl (V_isF (V_neq rfl rfl rfl) (fun q => q rfl)) ?_
        refine GT_st rfl rfl rfl rfl (V_pick_f rfl rfl rfl) ?_
        refine GT_st rfl rfl rfl rfl (V_move rfl rfl) ?_
        refine GT_st_g rfl rfl rfl rfl rfl rfl rfl (V_loadN (vs := [_, _, _, _, _]) rfl rfl ag_85 sz_85 rfl (CellsAt.item rfl)) ?_
        refine GT_st_g rfl rfl rfl rfl rfl rfl rfl (V_move rfl rfl) ?_
        refine GT_st_g rfl rfl rfl rfl rfl rfl rfl (V_move rfl rfl) ?_
        refine GT_st_g rfl rfl rfl rfl rfl rfl rfl (V_build (vs := [_, _, _, _, _]) rfl rfl zc_85 pl_85 sa_85 rfl) ?_
        refine GT_st_g rfl rfl rfl rfl rfl rfl rfl (V_neqSelf (cs := [I 0, I 0, I W, I W, .bool false]) rfl rfl rfl ip_85 (by kernel_rfl)) ?_
        refine GT_st rfl rfl rfl rfl (V_pick_f rfl rfl rfl) ?_
        refine GT_st rfl rfl rfl rfl (V_move rfl rfl) ?_
        refine GT_st_g rfl rfl rfl rfl rfl rfl rfl (V_move rfl rfl) ?_
        refine GT_st_g rfl rfl rfl rfl rfl rfl rfl (V_len rfl Tryz.underlying88 rfl) ?_
        refine GT_st_g rfl rfl rfl rfl rfl rfl rfl (V_isF (V_neq rfl rfl rfl) (fun q => q rfl)) ?_
        refine GT_st rfl rfl rfl rfl (V_pick_f rfl rfl rfl) ?_
        refine GT_st rfl rfl rfl rfl (V_move rfl rfl) ?_
        refine GT_st_g rfl rfl rfl rfl rfl rfl rfl (V_move rfl rfl) ?_
        refine GT_st_g rfl rfl rfl rfl rfl rfl rfl (V_index (k := 1) rfl rfl rfl Tryz.underlying88 sz_85 rfl (by decide) (hy.isSome (k := 1) (by omega))) ?_
        first | refine GT_st_g rfl rfl rfl rfl rfl rfl rfl (V_field rfl rfl fo_85_4) ?_ | refine GT_st_g rfl rfl rfl rfl rfl rfl rfl (V_fieldA rfl rfl fo_85_4) ?_
        refine GT_st_g rfl rfl rfl rfl rfl rfl rfl (V_load rfl rfl ag_4 (show CellAt _ _ _ (.bool true) from CellAt.own (k := 1) (j := 4) hy eBox_len (by omega) (by rw [hg1]; rfl))) ?_
        first | refine GT_st_g rfl rfl rfl rfl rfl rfl rfl (V_not rfl rfl) ?_ | refine GT_st_g rfl rfl rfl rfl rfl rfl rfl (V_notB rfl rfl) ?_
        refine GT_st rfl rfl rfl rfl (V_pick_f rfl rfl rfl) ?_
        refine GT_st rfl rfl rfl rfl (V_move rfl rfl) ?_
        refine GT_st_g rfl rfl rfl rfl rfl rfl rfl (V_move rfl rfl) ?_
        refine GT_st_g rfl rfl rfl rfl rfl rfl rfl (V_index (k := 2) rfl rfl rfl Tryz.underlying88 sz_85 rfl (by decide) (hy.isSome (k := 2) (by omega))) ?_
        first | refine GT_st_g rfl rfl rfl rfl rfl rfl rfl (V_field rfl rfl fo_85_4) ?_ | refine GT_st_g rfl rfl rfl rfl rfl rfl rfl (V_fieldA rfl rfl fo_85_4) ?_
        refine GT_st_g rfl rfl rfl rfl rfl rfl rfl (V_load rfl rfl ag_4 (show CellAt _ _ _ (.bool false) from CellAt.own (k := 2) (j := 4) hy eBox_len (by omega) (by rw [hg2]; show some (Value.bool Q.down) = _; rw [f1]))) ?_
        refine GT_st rfl rfl rfl rfl (V_pick_f rfl rfl rfl) ?_
        refine GT_nil ?_
        refine GE_cond_f rfl ?_
        refine GE_skip ?_
        refine GE_seq ?_
        refine GE_seq ?_
        refine GE_slots (L' := [(11, _), (13, _), (16, _), (18, _), (21, _)]) ⟨rfl, rfl, rfl, rfl, rfl, trivial⟩ ?_
        have hmb : 0 ≤ D * W ∧ D * W ≤ 65536 * 65536 := ⟨Int.mul_nonneg (by omega) (by omega), Int.mul_le_mul (by omega) (by omega) (by omega) (by omega)⟩; have har := mul_of (a := Q.x1 - Q.x0) (b := Q.y1 - Q.y0) (c := D) (d := W) f4
        refine GE_drawn (.st 0 (.st 1 (.st 2 (.st 3 (.st 4 (.st 5 (.st 6 (.st 7 (.st 8 (.st 9 (.st 10 (.st 11 (.st 12 (.st 13 (.st 14 (.st 15 (.st 16 (.st 17 (.st 18 (.st 19 (.st 20 (.st 21 (.st 22 (.st 23 (.st 24 (.st 25 (.st 26 (.st 27 (.st 28 (.st 29 (.st 30 (.st 31 (.st 32 (.st 33 (.st 34 (.st 35 (.st 36 (.st 37 (.st 38 (.st 39 (.st 40 (.st 41 (.st 42 (.st 43 (.st 44 (.st 45 (.st 46 (.st 47 (.st 48 (.st 49 (.st 50 (.st 51 (.st 52 .nil))))))))))))))))))))))))))))))))))))))))))))))))))))) [] (by decide +kernel) ?_
        refine GT_st rfl rfl rfl rfl (V_move rfl rfl) ?_
        refine GT_st rfl rfl rfl rfl (V_index (k := 2) rfl rfl rfl Tryz.underlying88 sz_85 rfl (by decide) (hy.isSome (k := 2) (by omega))) ?_
        first | refine GT_st rfl rfl rfl rfl (V_field rfl rfl fo_85_0) ?_ | refine GT_st rfl rfl rfl rfl (V_fieldA rfl rfl fo_85_0) ?_
        refine GT_st rfl rfl rfl rfl (V_load rfl rfl ag_2 (show CellAt _ _ _ (I Q.x0) from CellAt.own0 (k := 2) hy eBox_len (by omega) (by rw [hg2]; rfl))) ?_
        refine GT_st rfl rfl rfl rfl (V_isF (V_lss rfl rfl rfl) (by omega)) ?_
        refine GT_st rfl rfl rfl rfl (V_move rfl rfl) ?_
        refine GT_st_g rfl rfl rfl rfl rfl rfl rfl (V_move rfl rfl) ?_
        refine GT_st_g rfl rfl rfl rfl rfl rfl rfl (V_index (k := 2) rfl rfl rfl Tryz.underlying88 sz_85 rfl (by decide) (hy.isSome (k := 2) (by omega))) ?_
        first | refine GT_st_g rfl rfl rfl rfl rfl rfl rfl (V_field rfl rfl fo_85_2) ?_ | refine GT_st_g rfl rfl rfl rfl rfl rfl rfl (V_fieldA rfl rfl fo_85_2) ?_
        refine GT_st_g rfl rfl rfl rfl rfl rfl rfl (V_load rfl rfl ag_2 (show CellAt _ _ _ (I Q.x1) from CellAt.own (k := 2) (j := 2) hy eBox_len (by omega) (by rw [hg2]; rfl))) ?_
        refine GT_st_g rfl rfl rfl rfl rfl rfl rfl (V_move rfl rfl) ?_
        refine GT_st_g rfl rfl rfl rfl rfl rfl rfl (V_isF (V_gtr rfl rfl rfl) (by omega)) ?_
        refine GT_st rfl rfl rfl rfl (V_pick_f rfl rfl rfl) ?_
        refine GT_st rfl rfl rfl rfl (V_move rfl rfl) ?_
        refine GT_st_g rfl rfl rfl rfl rfl rfl rfl (V_move rfl rfl) ?_
        refine GT_st_g rfl rfl rfl rfl rfl rfl rfl (V_index (k := 2) rfl rfl rfl Tryz.underlying88 sz_85 rfl (by decide) (hy.isSome (k := 2) (by omega))) ?_
        first | refine GT_st_g rfl rfl rfl rfl rfl rfl rfl (V_field rfl rfl fo_85_1) ?_ | refine GT_st_g rfl rfl rfl rfl rfl rfl rfl (V_fieldA rfl rfl fo_85_1) ?_
        refine GT_st_g rfl rfl rfl rfl rfl rfl rfl (V_load rfl rfl ag_2 (show CellAt _ _ _ (I Q.y0) from CellAt.own (k := 2) (j := 1) hy eBox_len (by omega) (by rw [hg2]; rfl))) ?_
        refine GT_st_g rfl rfl rfl rfl rfl rfl rfl (V_isF (V_lss rfl rfl rfl) (by omega)) ?_
        refine GT_st rfl rfl rfl rfl (V_pick_f rfl rfl rfl) ?_
        refine GT_st rfl rfl rfl rfl (V_move rfl rfl) ?_
        refine GT_st_g rfl rfl rfl rfl rfl rfl rfl (V_move rfl rfl) ?_
        refine GT_st_g rfl rfl rfl rfl rfl rfl rfl (V_index (k := 2) rfl rfl rfl Tryz.underlying88 sz_85 rfl (by decide) (hy.isSome (k := 2) (by omega))) ?_
        first | refine GT_st_g rfl rfl rfl rfl rfl rfl rfl (V_field rfl rfl fo_85_3) ?_ | refine GT_st_g rfl rfl rfl rfl rfl rfl rfl (V_fieldA rfl rfl fo_85_3) ?_
        refine GT_st_g rfl rfl rfl rfl rfl rfl rfl (V_load rfl rfl ag_2 (show CellAt _ _ _ (I Q.y1) from CellAt.own (k := 2) (j := 3) hy eBox_len (by omega) (by rw [hg2]; rfl))) ?_
        refine GT_st_g rfl rfl rfl rfl rfl rfl rfl (V_move rfl rfl) ?_
        refine GT_st_g rfl rfl rfl rfl rfl rfl rfl (V_isF (V_gtr rfl rfl rfl) (by omega)) ?_
        refine GT_st rfl rfl rfl rfl (V_pick_f rfl rfl rfl) ?_
        refine GT_st rfl rfl rfl rfl (V_move rfl rfl) ?_
        refine GT_st_g rfl rfl rfl rfl rfl rfl rfl (V_move rfl rfl) ?_
        refine GT_st_g rfl rfl rfl rfl rfl rfl rfl (V_index (k := 2) rfl rfl rfl Tryz.underlying88 sz_85 rfl (by decide) (hy.isSome (k := 2) (by omega))) ?_
        first | refine GT_st_g rfl rfl rfl rfl rfl rfl rfl (V_field rfl rfl fo_85_2) ?_ | refine GT_st_g rfl rfl rfl rfl rfl rfl rfl (V_fieldA rfl rfl fo_85_2) ?_
        refine GT_st_g rfl rfl rfl rfl rfl rfl rfl (V_load rfl rfl ag_2 (show CellAt _ _ _ (I Q.x1) from CellAt.own (k := 2) (j := 2) hy eBox_len (by omega) (by rw [hg2]; rfl))) ?_
        refine GT_st_g rfl rfl rfl rfl rfl rfl rfl (V_move rfl rfl) ?_
        refine GT_st_g rfl rfl rfl rfl rfl rfl rfl (V_index (k := 2) rfl rfl rfl Tryz.underlying88 sz_85 rfl (by decide) (hy.isSome (k := 2) (by omega))) ?_
        first | refine GT_st_g rfl rfl rfl rfl rfl rfl rfl (V_field rfl rfl fo_85_0) ?_ | refine GT_st_g rfl rfl rfl rfl rfl rfl rfl (V_fieldA rfl rfl fo_85_0) ?_
        refine GT_st_g rfl rfl rfl rfl rfl rfl rfl (V_load rfl rfl ag_2 (show CellAt _ _ _ (I Q.x0) from CellAt.own0 (k := 2) hy eBox_len (by omega) (by rw [hg2]; rfl))) ?_
        refine GT_st_g rfl rfl rfl rfl rfl rfl rfl (V_sub rfl rfl rfl (wrap_i64 (by omega))) ?_
        refine GT_st_g rfl rfl rfl rfl rfl rfl rfl (V_move rfl rfl) ?_
        refine GT_st_g rfl rfl rfl rfl rfl rfl rfl (V_index (k := 2) rfl rfl rfl Tryz.underlying88 sz_85 rfl (by decide) (hy.isSome (k := 2) (by omega))) ?_
        first | refine GT_st_g rfl rfl rfl rfl rfl rfl rfl (V_field rfl rfl fo_85_3) ?_ | refine GT_st_g rfl rfl rfl rfl rfl rfl rfl (V_fieldA rfl rfl fo_85_3) ?_
        refine GT_st_g rfl rfl rfl rfl rfl rfl rfl (V_load rfl rfl ag_2 (show CellAt _ _ _ (I Q.y1) from CellAt.own (k := 2) (j := 3) hy eBox_len (by omega) (by rw [hg2]; rfl))) ?_
        refine GT_st_g rfl rfl rfl rfl rfl rfl rfl (V_move rfl rfl) ?_
        refine GT_st_g rfl rfl rfl rfl rfl rfl rfl (V_index (k := 2) rfl rfl rfl Tryz.underlying88 sz_85 rfl (by decide) (hy.isSome (k := 2) (by omega))) ?_
        first | refine GT_st_g rfl rfl rfl rfl rfl rfl rfl (V_field rfl rfl fo_85_1) ?_ | refine GT_st_g rfl rfl rfl rfl rfl rfl rfl (V_fieldA rfl rfl fo_85_1) ?_
        refine GT_st_g rfl rfl rfl rfl rfl rfl rfl (V_load rfl rfl ag_2 (show CellAt _ _ _ (I Q.y0) from CellAt.own (k := 2) (j := 1) hy eBox_len (by omega) (by rw [hg2]; rfl))) ?_
        refine GT_st_g rfl rfl rfl rfl rfl rfl rfl (V_sub rfl rfl rfl (wrap_i64 (by omega))) ?_
        refine GT_st_g rfl rfl rfl rfl rfl rfl rfl (V_mul rfl rfl rfl ((wrap_i64 (by rw [har]; omega)).trans har)) ?_
        refine GT_st_g rfl rfl rfl rfl rfl rfl rfl (V_move rfl rfl) ?_
        refine GT_st_g rfl rfl rfl rfl rfl rfl rfl (V_move rfl rfl) ?_
        refine GT_st_g rfl rfl rfl rfl rfl rfl rfl (V_mul rfl rfl rfl ((wrap_i64 (by omega)))) ?_
        refine GT_st_g rfl rfl rfl rfl rfl rfl rfl (V_isF (V_neq rfl rfl rfl) (fun q => q rfl)) ?_
        refine GT_st rfl rfl rfl rfl (V_pick_f rfl rfl rfl) ?_
        refine GT_nil ?_
        refine GE_cond_f rfl ?_
        refine GE_skip ?_
        refine GE_seq ?_
        refine GE_slots (L' := [(11, _), (13, _), (18, _), (21, _)]) ⟨rfl, rfl, rfl, rfl, trivial⟩ ?_
        refine GE_drawn (.st 0 (.st 1 (.st 2 (.st 3 (.st 4 (.st 5 (.st 6 (.st 7 (.st 8 (.st 9 (.st 10 (.st 11 .nil)))))))))))) [] (by decide +kernel) ?_
        first | refine GT_st rfl rfl rfl rfl (V_indexArr (kk := 0) rfl rfl rfl Tryz.underlying79 sz_78 rfl (by omega)) ?_ | refine GT_st rfl rfl rfl rfl (V_indexArrA (kk := 0) rfl rfl rfl Tryz.underlying79 sz_78 rfl (by omega)) ?_
        refine GT_st rfl rfl rfl rfl (V_load rfl rfl ag_78 (CellAt.item rfl)) ?_
        refine GT_st rfl rfl rfl rfl (V_convII rfl rfl (by rw [Tryz.underlying78]; rfl) Tryz.underlying2 (wrap_i64 (by omega))) ?_
        refine GT_st rfl rfl rfl rfl (V_move rfl rfl) ?_
        refine GT_st rfl rfl rfl rfl (V_eqv (V_rem rfl rfl rfl (by omega)) (congrArg I (show _ = a0 % W from Int.tmod_eq_emod_of_nonneg (by omega)))) ?_
        first | refine GT_st rfl rfl rfl rfl (V_indexArr (kk := 1) rfl rfl rfl Tryz.underlying79 sz_78 rfl (by omega)) ?_ | refine GT_st rfl rfl rfl rfl (V_indexArrA (kk := 1) rfl rfl rfl Tryz.underlying79 sz_78 rfl (by omega)) ?_
        refine GT_st rfl rfl rfl rfl (V_load rfl rfl ag_78 (CellAt.item rfl)) ?_
        refine GT_st rfl rfl rfl rfl (V_convII rfl rfl (by rw [Tryz.underlying78]; rfl) Tryz.underlying2 (wrap_i64 (by omega))) ?_
        refine GT_st rfl rfl rfl rfl (V_move rfl rfl) ?_
        refine GT_st rfl rfl rfl rfl (V_eqv (V_rem rfl rfl rfl (by omega)) (congrArg I (show _ = a1 % W from Int.tmod_eq_emod_of_nonneg (by omega)))) ?_
        refine GT_st rfl rfl rfl rfl (V_assign rfl rfl) ?_
        refine GT_st rfl rfl rfl rfl (V_assign rfl rfl) ?_
        refine GT_nil ?_
        refine GE_seq ?_
        refine GE_slots (L' := [(18, _), (21, _), (23, _), (24, _)]) ⟨rfl, rfl, rfl, rfl, trivial⟩ ?_
        have hx1 := Int.emod_lt_of_pos a0 (show 0 < W by omega); have hx2 := Int.emod_nonneg a0 (show W ≠ 0 by omega); have hy1 := Int.emod_lt_of_pos a1 (show 0 < W by omega); have hy2 := Int.emod_nonneg a1 (show W ≠ 0 by omega); generalize hX : a0 % W = X at *; generalize hY : a1 % W = Y at *
        refine GE_plain (.st 0 (.st 1 (.st 2 (.ld 3 [] (.st 4 (.st 5 (.st 6 (.st 7 (.st 8 .nil))))))))) rfl ?_
        refine GT_st rfl rfl rfl rfl (V_move rfl rfl) ?_
        refine GT_st rfl rfl rfl rfl (V_move rfl rfl) ?_
        refine GT_st rfl rfl rfl rfl (V_move rfl rfl) ?_
        refine GT_call0 rfl rfl rfl rfl rfl rfl rfl rfl rn_33 (fun w hw => C_LayersN (W := W) (D := D) (E := E) (O := O) (RdL.own' hw ePan_len) hw1 hdd hoo ⟨hx2, hx1⟩ ⟨hy2, hy1⟩) (GR_nil) ?_
        rw [hq]
        refine GT_st rfl rfl rfl rfl (V_move rfl rfl) ?_
        refine GT_st rfl rfl rfl rfl (V_extract rfl rfl rfl) ?_
        refine GT_st rfl rfl rfl rfl (V_extract rfl rfl rfl) ?_
        refine GT_st rfl rfl rfl rfl (V_assign rfl rfl) ?_
        refine GT_st rfl rfl rfl rfl (V_assign rfl rfl) ?_
        refine GT_nil ?_
        refine GE_seq ?_
        refine GE_slots (L' := [(20, _), (21, _), (23, _), (24, _), (25, _)]) ⟨rfl, rfl, rfl, rfl, rfl, trivial⟩ ?_
        refine GE_plain (.st 0 (.st 1 (.st 2 (.st 3 (.st 4 (.st 5 (.st 6 (.st 7 (.st 8 (.st 9 (.st 10 (.st 11 (.st 12 (.st 13 (.st 14 (.st 15 (.st 16 (.st 17 (.st 18 (.st 19 (.st 20 (.st 21 (.st 22 (.st 23 (.st 24 (.st 25 (.st 26 (.st 27 (.st 28 (.st 29 (.st 30 .nil))))))))))))))))))))))))))))))) rfl ?_
        refine GT_st rfl rfl rfl rfl (V_move rfl rfl) ?_
        refine GT_st rfl rfl rfl rfl (V_move rfl rfl) ?_
        refine GT_st rfl rfl rfl rfl (V_index (k := 2) rfl rfl rfl Tryz.underlying88 sz_85 rfl (by decide) (hy.isSome (k := 2) (by omega))) ?_
        first | refine GT_st rfl rfl rfl rfl (V_field rfl rfl fo_85_0) ?_ | refine GT_st rfl rfl rfl rfl (V_fieldA rfl rfl fo_85_0) ?_
        refine GT_st rfl rfl rfl rfl (V_load rfl rfl ag_2 (show CellAt _ _ _ (I Q.x0) from CellAt.own0 (k := 2) hy eBox_len (by omega) (by rw [hg2]; rfl))) ?_
        refine GT_st rfl rfl rfl rfl (V_geq rfl rfl rfl) ?_
        refine GT_st rfl rfl rfl rfl (V_move rfl rfl) ?_
        first | refine GT_splitNot (d := 195) rfl (fun u1 => ?_) (fun u1 => ?_) | refine GT_split (d := 195) rfl (fun u1 => ?_) (fun u1 => ?_) | refine GT_splitNotB (d := 195) rfl (fun u1 => ?_) (fun u1 => ?_) | refine GT_splitB (d := 195) rfl (fun u1 => ?_) (fun u1 => ?_)
        · skip
          refine GT_st_g rfl rfl rfl rfl rfl rfl rfl (V_move rfl rfl) ?_
          refine GT_st_g rfl rfl rfl rfl rfl rfl rfl (V_move rfl rfl) ?_
          refine GT_st_g rfl rfl rfl rfl rfl rfl rfl (V_index (k := 2) rfl rfl rfl Tryz.underlying88 sz_85 rfl (by decide) (hy.isSome (k := 2) (by omega))) ?_
          first | refine GT_st_g rfl rfl rfl rfl rfl rfl rfl (V_field rfl rfl fo_85_2) ?_ | refine GT_st_g rfl rfl rfl rfl rfl rfl rfl (V_fieldA rfl rfl fo_85_2) ?_
          refine GT_st_g rfl rfl rfl rfl rfl rfl rfl (V_load rfl rfl ag_2 (show CellAt _ _ _ (I Q.x1) from CellAt.own (k := 2) (j := 2) hy eBox_len (by omega) (by rw [hg2]; rfl))) ?_
          refine GT_st_g rfl rfl rfl rfl rfl rfl rfl (V_lss rfl rfl rfl) ?_
          refine GT_st rfl rfl rfl rfl (V_pick_t rfl rfl rfl) ?_
          refine GT_st rfl rfl rfl rfl (V_move rfl rfl) ?_
          first | refine GT_splitNot (d := 203) rfl (fun u2 => ?_) (fun u2 => ?_) | refine GT_split (d := 203) rfl (fun u2 => ?_) (fun u2 => ?_) | refine GT_splitNotB (d := 203) rfl (fun u2 => ?_) (fun u2 => ?_) | refine GT_splitB (d := 203) rfl (fun u2 => ?_) (fun u2 => ?_)
          · skip
            refine GT_st_g rfl rfl rfl rfl rfl rfl rfl (V_move rfl rfl) ?_
            refine GT_st_g rfl rfl rfl rfl rfl rfl rfl (V_move rfl rfl) ?_
            refine GT_st_g rfl rfl rfl rfl rfl rfl rfl (V_index (k := 2) rfl rfl rfl Tryz.underlying88 sz_85 rfl (by decide) (hy.isSome (k := 2) (by omega))) ?_
            first | refine GT_st_g rfl rfl rfl rfl rfl rfl rfl (V_field rfl rfl fo_85_1) ?_ | refine GT_st_g rfl rfl rfl rfl rfl rfl rfl (V_fieldA rfl rfl fo_85_1) ?_
            refine GT_st_g rfl rfl rfl rfl rfl rfl rfl (V_load rfl rfl ag_2 (show CellAt _ _ _ (I Q.y0) from CellAt.own (k := 2) (j := 1) hy eBox_len (by omega) (by rw [hg2]; rfl))) ?_
            refine GT_st_g rfl rfl rfl rfl rfl rfl rfl (V_geq rfl rfl rfl) ?_
            refine GT_st rfl rfl rfl rfl (V_pick_t rfl rfl rfl) ?_
            refine GT_st rfl rfl rfl rfl (V_move rfl rfl) ?_
            first | refine GT_splitNot (d := 211) rfl (fun u3 => ?_) (fun u3 => ?_) | refine GT_split (d := 211) rfl (fun u3 => ?_) (fun u3 => ?_) | refine GT_splitNotB (d := 211) rfl (fun u3 => ?_) (fun u3 => ?_) | refine GT_splitB (d := 211) rfl (fun u3 => ?_) (fun u3 => ?_)
            · skip
              refine GT_st_g rfl rfl rfl rfl rfl rfl rfl (V_move rfl rfl) ?_
              refine GT_st_g rfl rfl rfl rfl rfl rfl rfl (V_move rfl rfl) ?_
              refine GT_st_g rfl rfl rfl rfl rfl rfl rfl (V_index (k := 2) rfl rfl rfl Tryz.underlying88 sz_85 rfl (by decide) (hy.isSome (k := 2) (by omega))) ?_
              first | refine GT_st_g rfl rfl rfl rfl rfl rfl rfl (V_field rfl rfl fo_85_3) ?_ | refine GT_st_g rfl rfl rfl rfl rfl rfl rfl (V_fieldA rfl rfl fo_85_3) ?_
              refine GT_st_g rfl rfl rfl rfl rfl rfl rfl (V_load rfl rfl ag_2 (show CellAt _ _ _ (I Q.y1) from CellAt.own (k := 2) (j := 3) hy eBox_len (by omega) (by rw [hg2]; rfl))) ?_
              refine GT_st_g rfl rfl rfl rfl rfl rfl rfl (V_lss rfl rfl rfl) ?_
              refine GT_st rfl rfl rfl rfl (V_pick_t rfl rfl rfl) ?_
              refine GT_st rfl rfl rfl rfl (V_assign rfl rfl) ?_
              refine GT_nil ?_
              refine GE_seq ?_
              refine GE_slots (L' := [(20, _), (25, _), (26, _)]) ⟨rfl, rfl, rfl, trivial⟩ ?_
              refine GE_plain (.st 0 (.st 1 (.st 2 (.st 3 (.st 4 (.st 5 (.st 6 (.st 7 (.st 8 (.st 9 (.st 10 (.st 11 (.st 12 (.st 13 (.st 14 (.st 15 (.st 16 (.ld 17 [] (.st 18 (.st 19 .nil)))))))))))))))))))) rfl ?_
              refine GT_st rfl rfl rfl rfl (V_move rfl rfl) ?_
              refine GT_st rfl rfl rfl rfl (V_isT (V_eql rfl rfl rfl) rfl) ?_
              refine GT_st rfl rfl rfl rfl (V_move rfl rfl) ?_
              refine GT_st_g rfl rfl rfl rfl rfl rfl rfl (V_move rfl rfl) ?_
              refine GT_st_g rfl rfl rfl rfl rfl rfl rfl (V_eql rfl rfl rfl) ?_
              refine GT_st_g rfl rfl rfl rfl rfl rfl rfl (V_move rfl rfl) ?_
              refine GT_st_g rfl rfl rfl rfl rfl rfl rfl (V_eqlBB_same rfl rfl rfl Tryz.underlying4 ((lay3 Q X Y).trans (by first | exact decide_eq_decide.2 ⟨fun q => q.2, fun q => ⟨⟨⟨u1, u2⟩, u3⟩, q⟩⟩ | exact decide_eq_false (fun q => u3 q.1.2) | exact decide_eq_false (fun q => u2 q.1.1.2) | exact decide_eq_false (fun q => u1 q.1.1.1)))) ?_
              refine GT_st rfl rfl rfl rfl (V_pick_t rfl rfl rfl) ?_
              refine GT_st rfl rfl rfl rfl (V_move rfl rfl) ?_
              refine GT_st_g rfl rfl rfl rfl rfl rfl rfl (V_move rfl rfl) ?_
              refine GT_st_g rfl rfl rfl rfl rfl rfl rfl (V_eql rfl rfl rfl) ?_
              refine GT_st_g rfl rfl rfl rfl rfl rfl rfl (V_move rfl rfl) ?_
              first | refine GT_splitNot (d := 230) rfl (fun u4 => ?_) (fun u4 => ?_) | refine GT_split (d := 230) rfl (fun u4 => ?_) (fun u4 => ?_) | refine GT_splitNotB (d := 230) rfl (fun u4 => ?_) (fun u4 => ?_) | refine GT_splitB (d := 230) rfl (fun u4 => ?_) (fun u4 => ?_)
              · skip
                refine GT_skip rfl rfl rfl rfl rfl (by decide) rfl rfl ?_
                refine GT_skip rfl rfl rfl rfl rfl (by decide) rfl rfl ?_
                refine GT_st_g rfl rfl rfl rfl rfl rfl rfl (V_pick_t rfl rfl rfl) ?_
                refine GT_st rfl rfl rfl rfl (V_pick_t rfl rfl rfl) ?_
                refine GT_st rfl rfl rfl rfl (V_move rfl rfl) ?_
                refine GT_call0_g rfl rfl rfl rfl rfl rfl rfl rfl rfl rfl rfl rn_30 (fun w hw => Wks.C_works10 (hG.sh hw)) (GR_nil) ?_
                refine GT_st rfl rfl rfl rfl (V_pick_t rfl rfl rfl) ?_
                refine GT_st rfl rfl rfl rfl (V_assign rfl rfl) ?_
                refine GT_nil ?_
                refine GE_ret Tryz.func5 rfl (fun w hw => ⟨?_, hw.nil⟩)
                rfl
              · skip
                refine GT_st_g rfl rfl rfl rfl rfl rfl rfl (V_move rfl rfl) ?_
                refine GT_st_g rfl rfl rfl rfl rfl rfl rfl (V_isT (V_eql rfl rfl rfl) (by have := lay23 Q X Y; omega)) ?_
                refine GT_st_g rfl rfl rfl rfl rfl rfl rfl (V_pick_f rfl rfl rfl) ?_
                refine GT_st rfl rfl rfl rfl (V_pick_t rfl rfl rfl) ?_
                refine GT_st rfl rfl rfl rfl (V_move rfl rfl) ?_
                refine GT_call0_g rfl rfl rfl rfl rfl rfl rfl rfl rfl rfl rfl rn_30 (fun w hw => Wks.C_works10 (hG.sh hw)) (GR_nil) ?_
                refine GT_st rfl rfl rfl rfl (V_pick_t rfl rfl rfl) ?_
                refine GT_st rfl rfl rfl rfl (V_assign rfl rfl) ?_
                refine GT_nil ?_
                refine GE_ret Tryz.func5 rfl (fun w hw => ⟨?_, hw.nil⟩)
                rfl
            · skip
              refine GT_skip rfl rfl rfl rfl rfl (by decide) rfl rfl ?_
              refine GT_skip rfl rfl rfl rfl rfl (by decide) rfl rfl ?_
              refine GT_skip rfl rfl rfl rfl rfl (by decide) rfl rfl ?_
              refine GT_skip rfl rfl rfl rfl rfl (by decide) rfl rfl ?_
              refine GT_skip rfl rfl rfl rfl rfl (by decide) rfl rfl ?_
              refine GT_skip rfl rfl rfl rfl rfl (by decide) rfl rfl ?_
              refine GT_st rfl rfl rfl rfl (V_pick_f rfl rfl rfl) ?_
              refine GT_st rfl rfl rfl rfl (V_assign rfl rfl) ?_
              refine GT_nil ?_
              refine GE_seq ?_
              refine GE_slots (L' := [(20, _), (25, _), (26, _)]) ⟨rfl, rfl, rfl, trivial⟩ ?_
              refine GE_plain (.st 0 (.st 1 (.st 2 (.st 3 (.st 4 (.st 5 (.st 6 (.st 7 (.st 8 (.st 9 (.st 10 (.st 11 (.st 12 (.st 13 (.st 14 (.st 15 (.st 16 (.ld 17 [] (.st 18 (.st 19 .nil)))))))))))))))))))) rfl ?_
              refine GT_st rfl rfl rfl rfl (V_move rfl rfl) ?_
              refine GT_st rfl rfl rfl rfl (V_isT (V_eql rfl rfl rfl) rfl) ?_
              refine GT_st rfl rfl rfl rfl (V_move rfl rfl) ?_
              refine GT_st_g rfl rfl rfl rfl rfl rfl rfl (V_move rfl rfl) ?_
              refine GT_st_g rfl rfl rfl rfl rfl rfl rfl (V_eql rfl rfl rfl) ?_
              refine GT_st_g rfl rfl rfl rfl rfl rfl rfl (V_move rfl rfl) ?_
              refine GT_st_g rfl rfl rfl rfl rfl rfl rfl (V_eqlBB_same rfl rfl rfl Tryz.underlying4 ((lay3 Q X Y).trans (by first | exact decide_eq_decide.2 ⟨fun q => q.2, fun q => ⟨⟨⟨u1, u2⟩, u3⟩, q⟩⟩ | exact decide_eq_false (fun q => u3 q.1.2) | exact decide_eq_false (fun q => u2 q.1.1.2) | exact decide_eq_false (fun q => u1 q.1.1.1)))) ?_
              refine GT_st rfl rfl rfl rfl (V_pick_t rfl rfl rfl) ?_
              refine GT_st rfl rfl rfl rfl (V_move rfl rfl) ?_
              refine GT_st_g rfl rfl rfl rfl rfl rfl rfl (V_move rfl rfl) ?_
              refine GT_st_g rfl rfl rfl rfl rfl rfl rfl (V_eql rfl rfl rfl) ?_
              refine GT_st_g rfl rfl rfl rfl rfl rfl rfl (V_move rfl rfl) ?_
              first | refine GT_splitNot (d := 230) rfl (fun u4 => ?_) (fun u4 => ?_) | refine GT_split (d := 230) rfl (fun u4 => ?_) (fun u4 => ?_) | refine GT_splitNotB (d := 230) rfl (fun u4 => ?_) (fun u4 => ?_) | refine GT_splitB (d := 230) rfl (fun u4 => ?_) (fun u4 => ?_)
              · skip
                refine GT_skip rfl rfl rfl rfl rfl (by decide) rfl rfl ?_
                refine GT_skip rfl rfl rfl rfl rfl (by decide) rfl rfl ?_
                refine GT_st_g rfl rfl rfl rfl rfl rfl rfl (V_pick_t rfl rfl rfl) ?_
                refine GT_st rfl rfl rfl rfl (V_pick_t rfl rfl rfl) ?_
                refine GT_st rfl rfl rfl rfl (V_move rfl rfl) ?_
                refine GT_call0_g rfl rfl rfl rfl rfl rfl rfl rfl rfl rfl rfl rn_30 (fun w hw => Wks.C_works10 (hG.sh hw)) (GR_nil) ?_
                refine GT_st rfl rfl rfl rfl (V_pick_t rfl rfl rfl) ?_
                refine GT_st rfl rfl rfl rfl (V_assign rfl rfl) ?_
                refine GT_nil ?_
                refine GE_ret Tryz.func5 rfl (fun w hw => ⟨?_, hw.nil⟩)
                rfl
              · skip
                refine GT_st_g rfl rfl rfl rfl rfl rfl rfl (V_move rfl rfl) ?_
                refine GT_st_g rfl rfl rfl rfl rfl rfl rfl (V_isT (V_eql rfl rfl rfl) (by have := lay23 Q X Y; omega)) ?_
                refine GT_st_g rfl rfl rfl rfl rfl rfl rfl (V_pick_f rfl rfl rfl) ?_
                refine GT_st rfl rfl rfl rfl (V_pick_t rfl rfl rfl) ?_
                refine GT_st rfl rfl rfl rfl (V_move rfl rfl) ?_
                refine GT_call0_g rfl rfl rfl rfl rfl rfl rfl rfl rfl rfl rfl rn_30 (fun w hw => Wks.C_works10 (hG.sh hw)) (GR_nil) ?_
                refine GT_st rfl rfl rfl rfl (V_pick_t rfl rfl rfl) ?_
                refine GT_st rfl rfl rfl rfl (V_assign rfl rfl) ?_
                refine GT_nil ?_
                refine GE_ret Tryz.func5 rfl (fun w hw => ⟨?_, hw.nil⟩)
                rfl
          · skip
            refine GT_skip rfl rfl rfl rfl rfl (by decide) rfl rfl ?_
            refine GT_skip rfl rfl rfl rfl rfl (by decide) rfl rfl ?_
            refine GT_skip rfl rfl rfl rfl rfl (by decide) rfl rfl ?_
            refine GT_skip rfl rfl rfl rfl rfl (by decide) rfl rfl ?_
            refine GT_skip rfl rfl rfl rfl rfl (by decide) rfl rfl ?_
            refine GT_skip rfl rfl rfl rfl rfl (by decide) rfl rfl ?_
            refine GT_st rfl rfl rfl rfl (V_pick_f rfl rfl rfl) ?_
            refine GT_st rfl rfl rfl rfl (V_move rfl rfl) ?_
            refine GT_skip rfl rfl rfl rfl rfl (by decide) rfl rfl ?_
            refine GT_skip rfl rfl rfl rfl rfl (by decide) rfl rfl ?_
            refine GT_skip rfl rfl rfl rfl rfl (by decide) rfl rfl ?_
            refine GT_skip rfl rfl rfl rfl rfl (by decide) rfl rfl ?_
            refine GT_skip rfl rfl rfl rfl rfl (by decide) rfl rfl ?_
            refine GT_skip rfl rfl rfl rfl rfl (by decide) rfl rfl ?_
            refine GT_st rfl rfl rfl rfl (V_pick_f rfl rfl rfl) ?_
            refine GT_st rfl rfl rfl rfl (V_assign rfl rfl) ?_
            refine GT_nil ?_
            refine GE_seq ?_
            refine GE_slots (L' := [(20, _), (25, _), (26, _)]) ⟨rfl, rfl, rfl, trivial⟩ ?_
            refine GE_plain (.st 0 (.st 1 (.st 2 (.st 3 (.st 4 (.st 5 (.st 6 (.st 7 (.st 8 (.st 9 (.st 10 (.st 11 (.st 12 (.st 13 (.st 14 (.st 15 (.st 16 (.ld 17 [] (.st 18 (.st 19 .nil)))))))))))))))))))) rfl ?_
            refine GT_st rfl rfl rfl rfl (V_move rfl rfl) ?_
            refine GT_st rfl rfl rfl rfl (V_isT (V_eql rfl rfl rfl) rfl) ?_
            refine GT_st rfl rfl rfl rfl (V_move rfl rfl) ?_
            refine GT_st_g rfl rfl rfl rfl rfl rfl rfl (V_move rfl rfl) ?_
            refine GT_st_g rfl rfl rfl rfl rfl rfl rfl (V_eql rfl rfl rfl) ?_
            refine GT_st_g rfl rfl rfl rfl rfl rfl rfl (V_move rfl rfl) ?_
            refine GT_st_g rfl rfl rfl rfl rfl rfl rfl (V_eqlBB_same rfl rfl rfl Tryz.underlying4 ((lay3 Q X Y).trans (by first | exact decide_eq_decide.2 ⟨fun q => q.2, fun q => ⟨⟨⟨u1, u2⟩, u3⟩, q⟩⟩ | exact decide_eq_false (fun q => u3 q.1.2) | exact decide_eq_false (fun q => u2 q.1.1.2) | exact decide_eq_false (fun q => u1 q.1.1.1)))) ?_
            refine GT_st rfl rfl rfl rfl (V_pick_t rfl rfl rfl) ?_
            refine GT_st rfl rfl rfl rfl (V_move rfl rfl) ?_
            refine GT_st_g rfl rfl rfl rfl rfl rfl rfl (V_move rfl rfl) ?_
            refine GT_st_g rfl rfl rfl rfl rfl rfl rfl (V_eql rfl rfl rfl) ?_
            refine GT_st_g rfl rfl rfl rfl rfl rfl rfl (V_move rfl rfl) ?_
            first | refine GT_splitNot (d := 230) rfl (fun u4 => ?_) (fun u4 => ?_) | refine GT_split (d := 230) rfl (fun u4 => ?_) (fun u4 => ?_) | refine GT_splitNotB (d := 230) rfl (fun u4 => ?_) (fun u4 => ?_) | refine GT_splitB (d := 230) rfl (fun u4 => ?_) (fun u4 => ?_)
            · skip
              refine GT_skip rfl rfl rfl rfl rfl (by decide) rfl rfl ?_
              refine GT_skip rfl rfl rfl rfl rfl (by decide) rfl rfl ?_
              refine GT_st_g rfl rfl rfl rfl rfl rfl rfl (V_pick_t rfl rfl rfl) ?_
              refine GT_st rfl rfl rfl rfl (V_pick_t rfl rfl rfl) ?_
              refine GT_st rfl rfl rfl rfl (V_move rfl rfl) ?_
              refine GT_call0_g rfl rfl rfl rfl rfl rfl rfl rfl rfl rfl rfl rn_30 (fun w hw => Wks.C_works10 (hG.sh hw)) (GR_nil) ?_
              refine GT_st rfl rfl rfl rfl (V_pick_t rfl rfl rfl) ?_
              refine GT_st rfl rfl rfl rfl (V_assign rfl rfl) ?_
              refine GT_nil ?_
              refine GE_ret Tryz.func5 rfl (fun w hw => ⟨?_, hw.nil⟩)
              rfl
            · skip
              refine GT_st_g rfl rfl rfl rfl rfl rfl rfl (V_move rfl rfl) ?_
              refine GT_st_g rfl rfl rfl rfl rfl rfl rfl (V_isT (V_eql rfl rfl rfl) (by have := lay23 Q X Y; omega)) ?_
              refine GT_st_g rfl rfl rfl rfl rfl rfl rfl (V_pick_f rfl rfl rfl) ?_
              refine GT_st rfl rfl rfl rfl (V_pick_t rfl rfl rfl) ?_
              refine GT_st rfl rfl rfl rfl (V_move rfl rfl) ?_
              refine GT_call0_g rfl rfl rfl rfl rfl rfl rfl rfl rfl rfl rfl rn_30 (fun w hw => Wks.C_works10 (hG.sh hw)) (GR_nil) ?_
              refine GT_st rfl rfl rfl rfl (V_pick_t rfl rfl rfl) ?_
              refine GT_st rfl rfl rfl rfl (V_assign rfl rfl) ?_
              refine GT_nil ?_
              refine GE_ret Tryz.func5 rfl (fun w hw => ⟨?_, hw.nil⟩)
              rfl
        · skip
          refine GT_skip rfl rfl rfl rfl rfl (by decide) rfl rfl ?_
          refine GT_skip rfl rfl rfl rfl rfl (by decide) rfl rfl ?_
          refine GT_skip rfl rfl rfl rfl rfl (by decide) rfl rfl ?_
          refine GT_skip rfl rfl rfl rfl rfl (by decide) rfl rfl ?_
          refine GT_skip rfl rfl rfl rfl rfl (by decide) rfl rfl ?_
          refine GT_skip rfl rfl rfl rfl rfl (by decide) rfl rfl ?_
          refine GT_st rfl rfl rfl rfl (V_pick_f rfl rfl rfl) ?_
          refine GT_st rfl rfl rfl rfl (V_move rfl rfl) ?_
          refine GT_skip rfl rfl rfl rfl rfl (by decide) rfl rfl ?_
          refine GT_skip rfl rfl rfl rfl rfl (by decide) rfl rfl ?_
          refine GT_skip rfl rfl rfl rfl rfl (by decide) rfl rfl ?_
          refine GT_skip rfl rfl rfl rfl rfl (by decide) rfl rfl ?_
          refine GT_skip rfl rfl rfl rfl rfl (by decide) rfl rfl ?_
          refine GT_skip rfl rfl rfl rfl rfl (by decide) rfl rfl ?_
          refine GT_st rfl rfl rfl rfl (V_pick_f rfl rfl rfl) ?_
          refine GT_st rfl rfl rfl rfl (V_move rfl rfl) ?_
          refine GT_skip rfl rfl rfl rfl rfl (by decide) rfl rfl ?_
          refine GT_skip rfl rfl rfl rfl rfl (by decide) rfl rfl ?_
          refine GT_skip rfl rfl rfl rfl rfl (by decide) rfl rfl ?_
          refine GT_skip rfl rfl rfl rfl rfl (by decide) rfl rfl ?_
          refine GT_skip rfl rfl rfl rfl rfl (by decide) rfl rfl ?_
          refine GT_skip rfl rfl rfl rfl rfl (by decide) rfl rfl ?_
          refine GT_st rfl rfl rfl rfl (V_pick_f rfl rfl rfl) ?_
          refine GT_st rfl rfl rfl rfl (V_assign rfl rfl) ?_
          refine GT_nil ?_
          refine GE_seq ?_
          refine GE_slots (L' := [(20, _), (25, _), (26, _)]) ⟨rfl, rfl, rfl, trivial⟩ ?_
          refine GE_plain (.st 0 (.st 1 (.st 2 (.st 3 (.st 4 (.st 5 (.st 6 (.st 7 (.st 8 (.st 9 (.st 10 (.st 11 (.st 12 (.st 13 (.st 14 (.st 15 (.st 16 (.ld 17 [] (.st 18 (.st 19 .nil)))))))))))))))))))) rfl ?_
          refine GT_st rfl rfl rfl rfl (V_move rfl rfl) ?_
          refine GT_st rfl rfl rfl rfl (V_isT (V_eql rfl rfl rfl) rfl) ?_
          refine GT_st rfl rfl rfl rfl (V_move rfl rfl) ?_
          refine GT_st_g rfl rfl rfl rfl rfl rfl rfl (V_move rfl rfl) ?_
          refine GT_st_g rfl rfl rfl rfl rfl rfl rfl (V_eql rfl rfl rfl) ?_
          refine GT_st_g rfl rfl rfl rfl rfl rfl rfl (V_move rfl rfl) ?_
          refine GT_st_g rfl rfl rfl rfl rfl rfl rfl (V_eqlBB_same rfl rfl rfl Tryz.underlying4 ((lay3 Q X Y).trans (by first | exact decide_eq_decide.2 ⟨fun q => q.2, fun q => ⟨⟨⟨u1, u2⟩, u3⟩, q⟩⟩ | exact decide_eq_false (fun q => u3 q.1.2) | exact decide_eq_false (fun q => u2 q.1.1.2) | exact decide_eq_false (fun q => u1 q.1.1.1)))) ?_
          refine GT_st rfl rfl rfl rfl (V_pick_t rfl rfl rfl) ?_
          refine GT_st rfl rfl rfl rfl (V_move rfl rfl) ?_
          refine GT_st_g rfl rfl rfl rfl rfl rfl rfl (V_move rfl rfl) ?_
          refine GT_st_g rfl rfl rfl rfl rfl rfl rfl (V_eql rfl rfl rfl) ?_
          refine GT_st_g rfl rfl rfl rfl rfl rfl rfl (V_move rfl rfl) ?_
          first | refine GT_splitNot (d := 230) rfl (fun u4 => ?_) (fun u4 => ?_) | refine GT_split (d := 230) rfl (fun u4 => ?_) (fun u4 => ?_) | refine GT_splitNotB (d := 230) rfl (fun u4 => ?_) (fun u4 => ?_) | refine GT_splitB (d := 230) rfl (fun u4 => ?_) (fun u4 => ?_)
          · skip
            refine GT_skip rfl rfl rfl rfl rfl (by decide) rfl rfl ?_
            refine GT_skip rfl rfl rfl rfl rfl (by decide) rfl rfl ?_
            refine GT_st_g rfl rfl rfl rfl rfl rfl rfl (V_pick_t rfl rfl rfl) ?_
            refine GT_st rfl rfl rfl rfl (V_pick_t rfl rfl rfl) ?_
            refine GT_st rfl rfl rfl rfl (V_move rfl rfl) ?_
            refine GT_call0_g rfl rfl rfl rfl rfl rfl rfl rfl rfl rfl rfl rn_30 (fun w hw => Wks.C_works10 (hG.sh hw)) (GR_nil) ?_
            refine GT_st rfl rfl rfl rfl (V_pick_t rfl rfl rfl) ?_
            refine GT_st rfl rfl rfl rfl (V_assign rfl rfl) ?_
            refine GT_nil ?_
            refine GE_ret Tryz.func5 rfl (fun w hw => ⟨?_, hw.nil⟩)
            rfl
          · skip
            refine GT_st_g rfl rfl rfl rfl rfl rfl rfl (V_move rfl rfl) ?_
            refine GT_st_g rfl rfl rfl rfl rfl rfl rfl (V_isT (V_eql rfl rfl rfl) (by have := lay23 Q X Y; omega)) ?_
            refine GT_st_g rfl rfl rfl rfl rfl rfl rfl (V_pick_f rfl rfl rfl) ?_
            refine GT_st rfl rfl rfl rfl (V_pick_t rfl rfl rfl) ?_
            refine GT_st rfl rfl rfl rfl (V_move rfl rfl) ?_
            refine GT_call0_g rfl rfl rfl rfl rfl rfl rfl rfl rfl rfl rfl rn_30 (fun w hw => Wks.C_works10 (hG.sh hw)) (GR_nil) ?_
            refine GT_st rfl rfl rfl rfl (V_pick_t rfl rfl rfl) ?_
            refine GT_st rfl rfl rfl rfl (V_assign rfl rfl) ?_
            refine GT_nil ?_
            refine GE_ret Tryz.func5 rfl (fun w hw => ⟨?_, hw.nil⟩)
            rfl
      · skip
        refine GE_seq ?_
        refine GE_slots (L' := [(11, _), (13, _), (14, _), (15, _), (16, _), (17, _)]) ⟨rfl, rfl, rfl, rfl, rfl, rfl, trivial⟩ ?_
        refine GE_plain (.st 0 (.st 1 (.st 2 .nil))) rfl ?_
        refine GT_st rfl rfl rfl rfl (V_move rfl rfl) ?_
        refine GT_st rfl rfl rfl rfl (V_eqv (V_rem rfl rfl rfl (by omega)) (congrArg I (show _ = O % 2 from Int.tmod_eq_emod_of_nonneg (by omega)))) ?_
        refine GT_st rfl rfl rfl rfl (V_eql rfl rfl rfl) ?_
        refine GT_nil ?_
        first | refine GE_condNot rfl (fun q3 => ?_) (fun q3 => ?_) | refine GE_cond rfl (fun q3 => ?_) (fun q3 => ?_) | refine GE_condNotB rfl (fun q3 => ?_) (fun q3 => ?_) | refine GE_condB rfl (fun q3 => ?_) (fun q3 => ?_)
        · skip
          refine GE_plain (.st 0 (.st 1 (.st 2 (.st 3 (.ld 4 [] .nil))))) rfl ?_
          refine GT_st rfl rfl rfl rfl (V_move rfl rfl) ?_
          refine GT_st rfl rfl rfl rfl (V_move rfl rfl) ?_
          refine GT_st rfl rfl rfl rfl (V_move rfl rfl) ?_
          refine GT_st rfl rfl rfl rfl (V_build (vs := [_, _, _, _, _]) rfl rfl zc_82 pl_82 sa_82 rfl) ?_
          refine GT_store (vs := [_, _, _, _, _]) (l' := [_, _, _, _, _]) rfl rfl rfl rfl rfl rfl rfl sz_82 rfl rfl (Nat.le_of_ble_eq_true rfl) rfl (GR_nil) ?_
          refine GT_nil ?_
          exact GE_to (hk () trivial) ⟨rfl, rfl, rfl, rfl, rfl, trivial⟩ (HS.cons (by first | (rw [flapP, if_pos q3]; rfl) | (rw [flapP, if_neg q3]; rfl)) (HS.cons rfl (HS.cons rfl HS.nil)))
        · skip
          refine GE_skip ?_
          exact GE_to (hk () trivial) ⟨rfl, rfl, rfl, rfl, rfl, trivial⟩ (HS.cons (by first | (rw [flapP, if_pos q3]; rfl) | (rw [flapP, if_neg q3]; rfl)) (HS.cons rfl (HS.cons rfl HS.nil)))
end
end Go.Proofs.YtpbflnfcgcldkaaGreatDoor.Net
