/- Texts of this proof, one behind the other: Li4, Li5, Li6. -/
import Derived.Test.YtncleikbggjmjaaGreatDoorMt0
import Derived.Test.YtncleikbggjmjaaGreatDoorMt10
import Derived.Test.YtncleikbggjmjaaGreatDoorMt23
/- Plates, discs, the room: walked. -/
namespace Go.Proofs.YtncleikbggjmjaaGreatDoor.Lis
open Go.Sx Go.Proofs
section
variable {p : List Plt} {d : List Dsc} {A A2 : Option Addr} {c c2 : Nat} {side : Int} {w : World}
theorem plOk_iff {i : Nat} : plOk p i = true ↔ ((p.getD i default).kind = 0 ∧ (p.getD i default).par = -1) ∨ ((1 ≤ (p.getD i default).kind ∧ (p.getD i default).kind ≤ 3) ∧ (0 ≤ (p.getD i default).par ∧ (p.getD i default).par ≤ (i : Int) - 1) ∧ (p.getD (p.getD i default).par.toNat default).kind + 1 = (p.getD i default).kind) := by
  unfold plOk
  simp only [Bool.or_eq_true, Bool.and_eq_true, decide_eq_true_eq, betw_iff, and_assoc]
theorem plCheck_ok (h : p.length ≤ 256) (h2 : PlOk p) : plCheck p = 0 := plCheck_zero.2 ⟨h, h2⟩
theorem plCheck_bad (h : p.length ≤ 256) {i : Nat} (hi : i < p.length) (h2 : ¬ plOk p i = true) : plCheck p = 2 := by
  unfold plCheck; rw [if_neg (by omega), if_neg (fun q => h2 (q i hi))]
theorem plOk_kind (hk : ∀ j, j < c → plOk p j = true) {j : Nat} (hj : j < c) : 0 ≤ (p.getD j default).kind ∧ (p.getD j default).kind ≤ 3 := by
  have := plOk_iff.1 (hk j hj); omega
theorem C_listen_CheckPlates (hp : RdL w 7 ePlt A p) (hwf : ∀ x ∈ p, Plt.wf x) :
    Con0 Tryz.prog 93 [.slice A p.length c] w (I (plCheck p)) := by
  refine Ret_of (vs := [_]) hm none' Tryz.func93 rfl Tryz.ntmps93 rfl ?_
  dsimp only [slotsOf]
  refine Zp 1 [] rfl ?_;refine Zv rfl ?_;refine Zz ?_;refine Zp 3 [] rfl ?_;refine Zv rfl ?_;refine Zn rfl Tryz.underlying34 ?_;refine GT_S rfl (V_gtr rfl rfl rfl) ?_;refine GT_nil ?_;refine GE_cond rfl (fun h1 => ?_) (fun h1 => ?_)
  · refine Zq [] 1 [] rfl rfl ?_;refine Zv rfl ?_;refine GT_nil ?_;refine GE_ret Tryz.func93 rfl (fun w hw => ⟨?_, hw.nil⟩)
    unfold plCheck; rw [if_pos (by omega)]
  · refine GE_skip ?_;refine GE_seq ?_;refine Zq [0] 3 [] rfl rfl ?_;refine Zv rfl ?_;refine Zn rfl Tryz.underlying34 ?_;refine Zv rfl ?_;refine GT_nil ?_;refine GE_block ?_;refine GE_to (GE_loop (ι := Nat) (fun k => p.length - k) (fun k => [(0, .slice A p.length c), (8, .slice A p.length c), (9, I p.length), (10, I k)]) (fun k => []) (fun k => k ≤ p.length ∧ ∀ j, j < k → plOk p j = true) ?_ 0 ?_) ⟨rfl, rfl, rfl, rfl, trivial⟩ HS.nil
    · rintro k ⟨hk, hall⟩ ih
      refine Zp 1 [] rfl ?_;refine GT_S rfl (V_lss rfl rfl rfl) ?_;refine Zz ?_;refine GE_cond rfl (fun h2 => ?_) (fun h2 => ?_)
      · have hkl : k < p.length := (by omega); obtain ⟨hw1, hw2⟩ := hwf (p.getD k default) (by simp [List.getD, hkl]); unfold I64 at hw1 hw2
        refine GE_skip ?_;refine GE_seq ?_;refine GE_block ?_;refine Zp 6 [3, 5] rfl ?_;refine Zv rfl ?_;refine GT_S rfl (V_index rfl rfl rfl Tryz.underlying34 sz_78 (k := k) rfl hkl (hp.isSome hkl)) ?_;refine GT_S rfl (V_loadN (vs := [_, _, _, _, _, _, _]) rfl rfl ag_78 sz_78 rfl (hp.ats noM hkl)) ?_;refine Zb rfl zc_78 fun b4 => ?_;refine Zv rfl ?_;refine ZS [_, _, _, _, _, _, _] [_, _, _, _, _, _, _] rfl rfl sz_78 rfl rfl rfl ?_;refine GT_nil ?_;refine GE_block ?_;refine Zq [0, 3, 4, 8, 9, 10] 9 [] rfl rfl ?_;refine Zg rfl fo_78_0 rfl ag_3 rfl ?_;refine GT_S rfl (V_eql rfl rfl rfl) ?_;refine Zv rfl ?_;refine GT_split (d := 19) rfl (fun h3 => ?_) (fun h3 => ?_)
        · refine Zg rfl fo_78_1 rfl ag_3 rfl ?_;refine GT_S rfl (V_eql rfl rfl rfl) ?_;refine Zr 2 rfl ?_;refine GT_nil ?_;refine GE_cond rfl (fun h4 => ?_) (fun h4 => ?_)
          · have hok : plOk p k = true := (plOk_iff.2 (.inl ⟨h3, h4⟩))
            refine GE_skip ?_;refine GE_inBlock ?_;refine GE_inBlock ?_;refine Zs [0, 8, 9, 10, 20, 21, 22] rfl ?_;refine ZP 2 [1] rfl ?_;refine Za rfl (by omega) ?_;refine Zw rfl ?_;refine GT_nil ?_
            exact GE_to (ih (k + 1) ⟨by omega, fun j hj => by rcases Nat.lt_or_ge j k with q | q; exact hall j q; obtain rfl : j = k := (by omega); exact hok⟩ (by omega)) ⟨rfl, rfl, rfl, rfl, trivial⟩ HS.nil
          · refine GE_seq ?_;refine Zs [0, 3, 4, 8, 9, 10, 20, 21, 22] rfl ?_;refine GE_drawn (.st 0 (.st 1 (.ld 2 [] (.st 3 (.st 4 (.st 5 (.st 6 (.st 7 (.st 8 (.ld 9 [] (.st 10 (.st 11 (.st 12 (.st 13 (.st 14 (.st 15 (.st 16 (.st 17 (.st 18 (.st 19 (.st 20 (.st 21 (.st 22 (.st 23 (.st 24 .nil))))))))))))))))))))))))) [2, 9] (by decide +kernel) ?_;refine Zg rfl fo_78_0 rfl ag_3 rfl ?_;refine Zc rfl rn_55 (fun w hw => C_betw) GR_nil ?_;refine GT_S rfl (V_notB rfl rfl) ?_;refine Zv rfl ?_;refine GT_splitNotB (d := 29) rfl (fun h5 => ?_) (fun h5 => ?_)
            · have hbad : ¬ plOk p k = true := (fun q => by rcases plOk_iff.1 q with q | q; (first | exact h4 q.2 | exact h3 q.1); rw [← Bool.not_eq_true, betw_iff] at h5; exact h5 q.1)
              refine Zr 4 rfl ?_;refine GT_skip_ld rfl rfl rfl rfl rfl (by decide) rfl rfl rfl GR_nil ?_;refine Zr 15 rfl ?_;refine GT_nil ?_;refine GE_cond_t rfl ?_;refine Zq [] 1 [] rfl rfl ?_;refine Zv rfl ?_;refine GT_nil ?_;refine GE_ret Tryz.func93 rfl (fun w hw => ⟨?_, hw.nil⟩)
              rw [plCheck_bad (by omega) hkl hbad]
            · refine Zg rfl fo_78_1 rfl ag_3 rfl ?_;refine Zv rfl ?_;refine Za rfl (by omega) ?_;refine Zc rfl rn_55 (fun w hw => C_betw) GR_nil ?_;refine GT_S rfl (V_notB rfl rfl) ?_;refine Zr 2 rfl ?_;refine GT_splitNotB (d := 37) rfl (fun h6 => ?_) (fun h6 => ?_)
              · have hbad : ¬ plOk p k = true := (fun q => by rcases plOk_iff.1 q with q | q; (first | exact h4 q.2 | exact h3 q.1); rw [← Bool.not_eq_true, betw_iff] at h6; exact h6 q.2.1)
                refine Zr 12 rfl ?_;refine GT_nil ?_;refine GE_cond_t rfl ?_;refine Zq [] 1 [] rfl rfl ?_;refine Zv rfl ?_;refine GT_nil ?_;refine GE_ret Tryz.func93 rfl (fun w hw => ⟨?_, hw.nil⟩)
                rw [plCheck_bad (by omega) hkl hbad]
              · rw [betw_iff] at h5 h6; have hkd := plOk_kind hall (j := (p.getD k default).par.toNat) (by omega)
                refine Zv rfl ?_;refine Zg rfl fo_78_1 rfl ag_3 rfl ?_;refine GT_S rfl (V_index rfl rfl rfl Tryz.underlying34 sz_78 (k := (p.getD k default).par.toNat) (by omega) (by omega) (hp.isSome hkl)) ?_;refine GT_S rfl (V_fieldA rfl rfl fo_78_0) ?_;refine ZL rfl ag_3 (hp.at0 noM (by omega) rfl) ?_;refine Za rfl (by omega) ?_;refine Zg rfl fo_78_0 rfl ag_3 rfl ?_;refine GT_S rfl (V_neq rfl rfl rfl) ?_;refine Zr 2 rfl ?_;refine GT_nil ?_;refine GE_condNot rfl (fun h7 => ?_) (fun h7 => ?_)
                · have hbad : ¬ plOk p k = true := (fun q => by rcases plOk_iff.1 q with q | q; (first | exact h4 q.2 | exact h3 q.1); exact h7 q.2.2)
                  refine Zq [] 1 [] rfl rfl ?_;refine Zv rfl ?_;refine GT_nil ?_;refine GE_ret Tryz.func93 rfl (fun w hw => ⟨?_, hw.nil⟩)
                  rw [plCheck_bad (by omega) hkl hbad]
                · have hok : plOk p k = true := (plOk_iff.2 (.inr ⟨h5, h6, by omega⟩))
                  refine GE_skip ?_;refine GE_inBlock ?_;refine GE_inBlock ?_;refine Zs [0, 8, 9, 10, 20, 21, 22, 30, 31, 32, 33, 34, 35, 38, 39, 40, 41, 42, 43, 44, 45, 46, 47] rfl ?_;refine ZP 2 [1] rfl ?_;refine Za rfl (by omega) ?_;refine Zw rfl ?_;refine GT_nil ?_
                  exact GE_to (ih (k + 1) ⟨by omega, fun j hj => by rcases Nat.lt_or_ge j k with q | q; exact hall j q; obtain rfl : j = k := (by omega); exact hok⟩ (by omega)) ⟨rfl, rfl, rfl, rfl, trivial⟩ HS.nil
        · refine Zr 5 rfl ?_;refine GT_nil ?_;refine GE_cond_f rfl ?_;refine GE_seq ?_;refine Zs [0, 3, 4, 8, 9, 10, 20, 21, 22] rfl ?_;refine GE_drawn (.st 0 (.st 1 (.ld 2 [] (.st 3 (.st 4 (.st 5 (.st 6 (.st 7 (.st 8 (.ld 9 [] (.st 10 (.st 11 (.st 12 (.st 13 (.st 14 (.st 15 (.st 16 (.st 17 (.st 18 (.st 19 (.st 20 (.st 21 (.st 22 (.st 23 (.st 24 .nil))))))))))))))))))))))))) [2, 9] (by decide +kernel) ?_;refine Zg rfl fo_78_0 rfl ag_3 rfl ?_;refine Zc rfl rn_55 (fun w hw => C_betw) GR_nil ?_;refine GT_S rfl (V_notB rfl rfl) ?_;refine Zv rfl ?_;refine GT_splitNotB (d := 29) rfl (fun h5 => ?_) (fun h5 => ?_)
          · have hbad : ¬ plOk p k = true := (fun q => by rcases plOk_iff.1 q with q | q; (first | exact h4 q.2 | exact h3 q.1); rw [← Bool.not_eq_true, betw_iff] at h5; exact h5 q.1)
            refine Zr 4 rfl ?_;refine GT_skip_ld rfl rfl rfl rfl rfl (by decide) rfl rfl rfl GR_nil ?_;refine Zr 15 rfl ?_;refine GT_nil ?_;refine GE_cond_t rfl ?_;refine Zq [] 1 [] rfl rfl ?_;refine Zv rfl ?_;refine GT_nil ?_;refine GE_ret Tryz.func93 rfl (fun w hw => ⟨?_, hw.nil⟩)
            rw [plCheck_bad (by omega) hkl hbad]
          · refine Zg rfl fo_78_1 rfl ag_3 rfl ?_;refine Zv rfl ?_;refine Za rfl (by omega) ?_;refine Zc rfl rn_55 (fun w hw => C_betw) GR_nil ?_;refine GT_S rfl (V_notB rfl rfl) ?_;refine Zr 2 rfl ?_;refine GT_splitNotB (d := 37) rfl (fun h6 => ?_) (fun h6 => ?_)
            · have hbad : ¬ plOk p k = true := (fun q => by rcases plOk_iff.1 q with q | q; (first | exact h4 q.2 | exact h3 q.1); rw [← Bool.not_eq_true, betw_iff] at h6; exact h6 q.2.1)
              refine Zr 12 rfl ?_;refine GT_nil ?_;refine GE_cond_t rfl ?_;refine Zq [] 1 [] rfl rfl ?_;refine Zv rfl ?_;refine GT_nil ?_;refine GE_ret Tryz.func93 rfl (fun w hw => ⟨?_, hw.nil⟩)
              rw [plCheck_bad (by omega) hkl hbad]
            · rw [betw_iff] at h5 h6; have hkd := plOk_kind hall (j := (p.getD k default).par.toNat) (by omega)
              refine Zv rfl ?_;refine Zg rfl fo_78_1 rfl ag_3 rfl ?_;refine GT_S rfl (V_index rfl rfl rfl Tryz.underlying34 sz_78 (k := (p.getD k default).par.toNat) (by omega) (by omega) (hp.isSome hkl)) ?_;refine GT_S rfl (V_fieldA rfl rfl fo_78_0) ?_;refine ZL rfl ag_3 (hp.at0 noM (by omega) rfl) ?_;refine Za rfl (by omega) ?_;refine Zg rfl fo_78_0 rfl ag_3 rfl ?_;refine GT_S rfl (V_neq rfl rfl rfl) ?_;refine Zr 2 rfl ?_;refine GT_nil ?_;refine GE_condNot rfl (fun h7 => ?_) (fun h7 => ?_)
              · have hbad : ¬ plOk p k = true := (fun q => by rcases plOk_iff.1 q with q | q; (first | exact h4 q.2 | exact h3 q.1); exact h7 q.2.2)
                refine Zq [] 1 [] rfl rfl ?_;refine Zv rfl ?_;refine GT_nil ?_;refine GE_ret Tryz.func93 rfl (fun w hw => ⟨?_, hw.nil⟩)
                rw [plCheck_bad (by omega) hkl hbad]
              · have hok : plOk p k = true := (plOk_iff.2 (.inr ⟨h5, h6, by omega⟩))
                refine GE_skip ?_;refine GE_inBlock ?_;refine GE_inBlock ?_;refine Zs [0, 8, 9, 10, 20, 21, 22, 30, 31, 32, 33, 34, 35, 38, 39, 40, 41, 42, 43, 44, 45, 46, 47] rfl ?_;refine ZP 2 [1] rfl ?_;refine Za rfl (by omega) ?_;refine Zw rfl ?_;refine GT_nil ?_
                exact GE_to (ih (k + 1) ⟨by omega, fun j hj => by rcases Nat.lt_or_ge j k with q | q; exact hall j q; obtain rfl : j = k := (by omega); exact hok⟩ (by omega)) ⟨rfl, rfl, rfl, rfl, trivial⟩ HS.nil
      · obtain rfl : k = p.length := (by omega)
        refine GE_exit rfl ?_;refine Zq [] 1 [] rfl rfl ?_;refine Zv rfl ?_;refine GT_nil ?_;refine GE_ret Tryz.func93 rfl (fun w hw => ⟨?_, hw.nil⟩)
        rw [plCheck_ok (by omega) hall]
    · exact ⟨Nat.zero_le _, fun j hj => absurd hj (Nat.not_lt_zero _)⟩
theorem dsOk_iff {i : Nat} : dsOk p d i = true ↔ (prevS d i < (d.getD i default).ser ∧ stamp p (d.getD i default).a = true) ∧ stamp p (d.getD i default).b = true := by
  unfold dsOk
  simp only [Bool.and_eq_true, decide_eq_true_eq]
theorem stamp_iff {n : Int} : stamp p n = true ↔ (1 ≤ n ∧ n ≤ p.length) ∧ (p.getD (n - 1).toNat default).kind = 3 := by
  unfold stamp
  simp only [Bool.and_eq_true, decide_eq_true_eq, betw_iff]
theorem dsCheck_bad (h0 : plCheck p = 0) (h : d.length ≤ 200) {i : Nat} (hi : i < d.length) (h2 : ¬ dsOk p d i = true) : dsCheck p d = 2 := by
  unfold dsCheck; rw [if_pos h0, if_neg (by omega), if_neg (fun q => h2 (q i hi))]
def stOf (x : Dsc) (j : Nat) : Int := if j = 0 then x.a else x.b
theorem C_listen_CheckDiscs (hp : RdL w 7 ePlt A p) (hwf : ∀ x ∈ p, Plt.wf x) (hd : RdL w 7 eDsc A2 d) (hdf : ∀ x ∈ d, Dsc.wf x) :
    Con0 Tryz.prog 72 [.slice A p.length c, .slice A2 d.length c2] w (I (dsCheck p d)) := by
  refine Ret_of (vs := [_, _]) hm none' Tryz.func72 rfl Tryz.ntmps72 rfl ?_
  dsimp only [slotsOf]
  refine Zp 1 [] rfl ?_;refine Zv rfl ?_;refine Zz ?_;refine Zp 3 [1] rfl ?_;refine Zv rfl ?_;refine Zc rfl rn_93 (fun w hw => C_listen_CheckPlates (hp.sh hw) hwf) GR_nil ?_;refine Zv rfl ?_;refine GT_nil ?_;refine Zp 2 [] rfl ?_;refine Zv rfl ?_;refine GT_S rfl (V_neq rfl rfl rfl) ?_;refine GT_nil ?_;refine GE_condNot rfl (fun h0 => ?_) (fun h0 => ?_)
  · refine Zq [5] 2 [] rfl rfl ?_;refine Zr 2 rfl ?_;refine GT_nil ?_;refine GE_ret Tryz.func72 rfl (fun w hw => ⟨?_, hw.nil⟩)
    unfold dsCheck; rw [if_neg h0]
  · obtain ⟨hpl, hpo⟩ := plCheck_zero.1 h0
    refine GE_skip ?_;refine GE_seq ?_;refine Zq [0, 1] 3 [] rfl rfl ?_;refine Zv rfl ?_;refine Zn rfl Tryz.underlying36 ?_;refine GT_S rfl (V_gtr rfl rfl rfl) ?_;refine GT_nil ?_;refine GE_cond rfl (fun h1 => ?_) (fun h1 => ?_)
    · refine Zq [] 1 [] rfl rfl ?_;refine Zv rfl ?_;refine GT_nil ?_;refine GE_ret Tryz.func72 rfl (fun w hw => ⟨?_, hw.nil⟩)
      unfold dsCheck; rw [if_pos h0, if_pos (by omega)]
    · refine GE_skip ?_;refine Zp 1 [] rfl ?_;refine Zv rfl ?_;refine Zz ?_;refine Zp 3 [] rfl ?_;refine Zv rfl ?_;refine Zn rfl Tryz.underlying36 ?_;refine Zv rfl ?_;refine GT_nil ?_;refine GE_block ?_;refine GE_to (GE_loop (ι := Nat) (fun k => d.length - k) (fun k => [(0, .slice A p.length c), (6, I (prevS d k)), (19, .slice A2 d.length c2), (20, I d.length), (21, I k)]) (fun k => []) (fun k => k ≤ d.length ∧ ∀ j, j < k → dsOk p d j = true) ?_ 0 ?_) ⟨rfl, rfl, rfl, rfl, rfl, trivial⟩ HS.nil
      · rintro k ⟨hk, hall⟩ ih
        refine Zp 1 [] rfl ?_;refine GT_S rfl (V_lss rfl rfl rfl) ?_;refine Zz ?_;refine GE_cond rfl (fun h2 => ?_) (fun h2 => ?_)
        · have hkl : k < d.length := (by omega); obtain ⟨hw1, hw2, hw3⟩ := hdf (d.getD k default) (by simp [List.getD, hkl]); unfold I64 at hw1 hw2 hw3
          refine GE_skip ?_;refine GE_seq ?_;refine GE_block ?_;refine Zp 4 [2, 3] rfl ?_;refine GT_S rfl (V_index rfl rfl rfl Tryz.underlying36 sz_47 (k := k) rfl hkl (hd.isSome hkl)) ?_;refine GT_S rfl (V_loadN (vs := [_, _, _, _, _, _, _]) rfl rfl ag_47 sz_47 rfl (hd.ats noM hkl)) ?_;refine Zb rfl zc_47 fun b8 => ?_;refine ZS [_, _, _, _, _, _, _] [_, _, _, _, _, _, _] rfl rfl sz_47 rfl rfl rfl ?_;refine Zz ?_;refine Zp 4 [] rfl ?_;refine Zg rfl fo_47_0 rfl ag_2 rfl ?_;refine Zv rfl ?_;refine GT_S rfl (V_leq rfl rfl rfl) ?_;refine GT_nil ?_;refine GE_cond rfl (fun h3 => ?_) (fun h3 => ?_)
          · have hbad : ¬ dsOk p d k = true := (fun q => by have := (dsOk_iff.1 q).1.1; omega)
            refine Zq [] 1 [] rfl rfl ?_;refine Zv rfl ?_;refine GT_nil ?_;refine GE_ret Tryz.func72 rfl (fun w hw => ⟨?_, hw.nil⟩)
            rw [dsCheck_bad h0 (by omega) hkl hbad]
          · refine GE_skip ?_;refine Zq [0, 8, 19, 20, 21] 3 [] rfl rfl ?_;refine Zg rfl fo_47_0 rfl ag_2 rfl ?_;refine Zv rfl ?_;refine GT_nil ?_;refine Zp 6 [] rfl ?_;refine Zg rfl fo_47_1 rfl ag_2 rfl ?_;refine Zg rfl fo_47_2 rfl ag_2 rfl ?_;refine GT_S rfl (V_build (vs := [_, _]) rfl rfl zc_68 pl_68 sa_68 rfl) ?_;refine Zv rfl ?_;refine GT_nil ?_;refine GE_block ?_;refine GE_to (GE_loop (ι := Nat) (fun j => 2 - j) (fun j => [(0, .slice A p.length c), (6, I (prevS d (k + 1))), (19, .slice A2 d.length c2), (20, I d.length), (21, I k), (35, .agg #[I (d.getD k default).a, I (d.getD k default).b]), (36, I j)]) (fun j => []) (fun j => j ≤ 2 ∧ ∀ q, q < j → stamp p (stOf (d.getD k default) q) = true) ?_ 0 ?_) ⟨rfl, rfl, rfl, rfl, rfl, rfl, rfl, trivial⟩ HS.nil
            · rintro j ⟨hj, hst⟩ ih2
              refine Zp 1 [] rfl ?_;refine GT_S rfl (V_lss rfl rfl rfl) ?_;refine Zz ?_;refine GE_cond rfl (fun h4 => ?_) (fun h4 => ?_)
              · have hj2 : j < 2 := (by omega); have hwj : -9223372036854775808 ≤ stOf (d.getD k default) j ∧ stOf (d.getD k default) j ≤ 9223372036854775807 := (by unfold stOf; split <;> assumption)
                refine GE_skip ?_;refine GE_seq ?_;refine GE_block ?_;refine Zp 2 [] rfl ?_;refine GT_S rfl (V_indexAgg rfl rfl rfl Tryz.underlying68 ag_2 sz_2 (kk := j) (v := I (stOf (d.getD k default) j)) rfl (by omega) (by rcases (show j = 0 ∨ j = 1 by omega) with rfl | rfl <;> rfl)) ?_;refine Zv rfl ?_;refine GT_nil ?_;refine Zp 14 [3] rfl ?_;refine Zr 2 rfl ?_;refine Zn rfl Tryz.underlying34 ?_;refine Zc rfl rn_56 (fun w hw => C_betw64) GR_nil ?_;refine GT_S rfl (V_notB rfl rfl) ?_;refine Zv rfl ?_;refine GT_splitNotB (d := 44) rfl (fun h5 => ?_) (fun h5 => ?_)
                · have hnst : ¬ stamp p (stOf (d.getD k default) j) = true := (fun q => by rw [← Bool.not_eq_true, betw_iff] at h5; exact h5 (stamp_iff.1 q).1)
                  refine Zr 8 rfl ?_;refine GT_nil ?_;refine GE_cond_t rfl ?_;refine GE_seq ?_;refine Zs [] rfl ?_
                  have hbad : ¬ dsOk p d k = true := (fun q => by have := dsOk_iff.1 q; rcases (show j = 0 ∨ j = 1 by omega) with rfl | rfl; exact hnst this.1.2; exact hnst this.2)
                  refine ZP 1 [] rfl ?_;refine Zv rfl ?_;refine GT_nil ?_;refine GE_ret Tryz.func72 rfl (fun w hw => ⟨?_, hw.nil⟩)
                  rw [dsCheck_bad h0 (by omega) hkl hbad]
                · rw [betw_iff] at h5
                  refine Zr 2 rfl ?_;refine Za rfl (by omega) ?_;refine GT_S rfl (V_index rfl rfl rfl Tryz.underlying34 sz_78 (k := (stOf (d.getD k default) j - 1).toNat) (by omega) (by omega) (hp.isSome (k := (stOf (d.getD k default) j - 1).toNat) (by omega))) ?_;refine GT_S rfl (V_fieldA rfl rfl fo_78_0) ?_;refine ZL rfl ag_3 (hp.at0 noM (by omega) rfl) ?_;refine GT_S rfl (V_neq rfl rfl rfl) ?_;refine Zv rfl ?_;refine GT_nil ?_;refine GE_condNot rfl (fun h6 => ?_) (fun h6 => ?_)
                  · have hnst : ¬ stamp p (stOf (d.getD k default) j) = true := (fun q => h6 (stamp_iff.1 q).2)
                    refine GE_seq ?_;refine Zs [] rfl ?_
                    have hbad : ¬ dsOk p d k = true := (fun q => by have := dsOk_iff.1 q; rcases (show j = 0 ∨ j = 1 by omega) with rfl | rfl; exact hnst this.1.2; exact hnst this.2)
                    refine ZP 1 [] rfl ?_;refine Zv rfl ?_;refine GT_nil ?_;refine GE_ret Tryz.func72 rfl (fun w hw => ⟨?_, hw.nil⟩)
                    rw [dsCheck_bad h0 (by omega) hkl hbad]
                  · have hsj : stamp p (stOf (d.getD k default) j) = true := stamp_iff.2 ⟨h5, h6⟩
                    refine GE_skip ?_;refine GE_inBlock ?_;refine Zs [0, 6, 19, 20, 21, 35, 36, 45, 46, 47, 48, 49, 50, 51] rfl ?_;refine ZP 2 [1] rfl ?_;refine Za rfl (by omega) ?_;refine Zw rfl ?_;refine GT_nil ?_
                    exact GE_to (ih2 (j + 1) ⟨by omega, fun q hq => by rcases Nat.lt_or_ge q j with r | r; exact hst q r; obtain rfl : q = j := (by omega); exact hsj⟩ (by omega)) ⟨rfl, rfl, rfl, rfl, rfl, rfl, rfl, trivial⟩ HS.nil
              · have hok : dsOk p d k = true := (dsOk_iff.2 ⟨⟨by omega, hst 0 (by omega)⟩, hst 1 (by omega)⟩)
                refine GE_exit rfl ?_;refine GE_inBlock ?_;refine ZP 2 [1] rfl ?_;refine Za rfl (by omega) ?_;refine Zw rfl ?_;refine GT_nil ?_
                exact GE_to (ih (k + 1) ⟨by omega, fun j hj => by rcases Nat.lt_or_ge j k with q | q; exact hall j q; obtain rfl : j = k := (by omega); exact hok⟩ (by omega)) ⟨rfl, rfl, rfl, rfl, rfl, trivial⟩ HS.nil
            · exact ⟨Nat.zero_le _, fun j hj => absurd hj (Nat.not_lt_zero _)⟩
        · obtain rfl : k = d.length := (by omega)
          refine GE_exit rfl ?_;refine Zq [] 1 [] rfl rfl ?_;refine Zv rfl ?_;refine GT_nil ?_;refine GE_ret Tryz.func72 rfl (fun w hw => ⟨?_, hw.nil⟩)
          rw [dsCheck_zero.2 ⟨h0, by omega, hall⟩]
      · exact ⟨Nat.zero_le _, fun j hj => absurd hj (Nat.not_lt_zero _)⟩
def roomC (A A3 A4 : Option Addr) (np n c c3 c4 : Nat) : List Value := [.slice A np c, .slice A3 n c3, .slice A4 n c4]
theorem C_newRoom_err (hp : RdL w 7 ePlt A p) (hwf : ∀ x ∈ p, Plt.wf x) (hd : RdL w 7 eDsc A2 d) (hdf : ∀ x ∈ d, Dsc.wf x) (he : beginE p d side ≠ 0) :
    Con0 Tryz.prog 48 [.slice A p.length c, .slice A2 d.length c2, I side] w (.tuple #[.pointer none, I (beginE p d side)]) := by
  refine Ret_of (vs := [_, _, _]) hm none' Tryz.func48 rfl Tryz.ntmps48 rfl ?_
  dsimp only [slotsOf]
  refine Zp 2 [] rfl ?_;refine Zr 2 rfl ?_;refine Zz ?_;refine Zp 4 [2] rfl ?_;refine Zr 2 rfl ?_;refine Zc rfl rn_72 (fun w hw => C_listen_CheckDiscs (hp.sh hw) hwf (hd.sh hw) hdf) GR_nil ?_;refine Zv rfl ?_;refine GT_nil ?_;refine Zq [0, 1, 2, 8] 2 [] rfl rfl ?_;refine Zv rfl ?_;refine GT_S rfl (V_neq rfl rfl rfl) ?_;refine GT_nil ?_;refine GE_condNot rfl (fun h0 => ?_) (fun h0 => ?_)
  · have e : beginE p d side = dsCheck p d := if_neg h0
    refine Zq [8] 3 [] rfl rfl ?_;refine Zr 3 rfl ?_;refine GT_nil ?_;refine GE_ret Tryz.func48 ⟨_, _, rfl, rfl, rfl⟩ (fun w hw => ⟨?_, hw.nil⟩)
    rw [e]
  · have e : beginE p d side = _ := if_pos h0
    refine GE_skip ?_;refine GE_seq ?_;refine Zp 6 [] rfl ?_;refine Zv rfl ?_;refine GT_S rfl (V_neq rfl rfl rfl) ?_;refine Zv rfl ?_;refine GT_splitNot (d := 20) rfl (fun h1 => ?_) (fun h1 => ?_)
    · refine Zv rfl ?_;refine GT_S rfl (V_neq rfl rfl rfl) ?_;refine Zv rfl ?_;refine GT_nil ?_;refine GE_condNot rfl (fun h2 => ?_) (fun h2 => ?_)
      · rw [if_neg (by omega)] at e
        refine Zq [] 2 [] rfl rfl ?_;refine Zr 2 rfl ?_;refine GT_nil ?_;refine GE_ret Tryz.func48 ⟨_, _, rfl, rfl, rfl⟩ (fun w hw => ⟨?_, hw.nil⟩)
        rw [e]
      · exact absurd (by rw [e, if_pos (.inr h2)]) he
    · exact absurd (by rw [e, if_pos (.inl h1)]) he
set_option maxRecDepth 10000 in
theorem C_newRoom_ok (hp : RdL w 7 ePlt A p) (hwf : ∀ x ∈ p, Plt.wf x) (hd : RdL w 7 eDsc A2 d) (hdf : ∀ x ∈ d, Dsc.wf x) (hR : Room p d side) :
    Con Tryz.prog 48 [.slice A p.length c, .slice A2 d.length c2, I side] w (fun y : Nat × (Option Addr × Nat × Items) × (Option Addr × Nat × Items) => Own 1 2 eI (serS d) (.slice y.2.1.1 (serS d).length y.2.1.2.1) y.2.1.2.2 ∧ Own 1 3 eI (stmS d side) (.slice y.2.2.1 (stmS d side).length y.2.2.2.1) y.2.2.2.2)
      (fun y => .tuple #[ptr y.1 0, I 0]) (fun y => (y.1, blk (roomC A y.2.1.1 y.2.2.1 p.length d.length c y.2.1.2.1 y.2.2.2.1) 127) :: (y.2.1.2.2 ++ y.2.2.2.2)) := by
  have he := beginE_zero.2 hR
  have hl1 := serS_len d
  have hl2 := stmS_len d side
  have hdl := hR.dl
  have hts : ∀ k, k ≤ d.length → ((serS d).take k).length = k := fun k hk => by rw [List.length_take]; omega
  have htm : ∀ k, k ≤ d.length → ((stmS d side).take k).length = k := fun k hk => by rw [List.length_take]; omega
  refine Ret_of (vs := [_, _, _]) hm none' Tryz.func48 rfl Tryz.ntmps48 rfl ?_
  dsimp only [slotsOf]
  refine Zp 2 [] rfl ?_;refine Zr 2 rfl ?_;refine Zz ?_;refine Zp 4 [2] rfl ?_;refine Zr 2 rfl ?_;refine Zc rfl rn_72 (fun w hw => C_listen_CheckDiscs (hp.sh hw) hwf (hd.sh hw) hdf) GR_nil ?_;refine Zv rfl ?_;refine GT_nil ?_;refine Zq [0, 1, 2, 8] 2 [] rfl rfl ?_;refine Zv rfl ?_;refine GT_S rfl (V_neq rfl rfl rfl) ?_;refine GT_nil ?_;refine GE_condNot rfl (fun h0 => ?_) (fun h0 => ?_)
  · exact absurd (dsCheck_zero.2 ⟨plCheck_zero.2 ⟨hR.pl, hR.plok⟩, hR.dl, hR.dsok⟩) h0
  · refine GE_skip ?_;refine GE_cut (ι := Unit) (fun u => [(0, .slice A p.length c), (1, .slice A2 d.length c2), (2, I side)]) (fun u => []) (fun u => True) ?_ (fun hk6 => ?_)
    · intro u _
      refine Zp 4 [2] rfl ?_;refine Zv rfl ?_;refine GT_S rfl (V_build (vs := [_, _, _]) rfl rfl zc_127 pl_127 sa_127 rfl) ?_;refine Zx [_, _, _] rfl rfl fun b26 => ?_;refine Zv rfl ?_;refine Zz ?_;refine Zq [1, 2, 9] 3 [] rfl rfl ?_;refine Zv rfl ?_;refine Zn rfl Tryz.underlying36 ?_;refine Zv rfl ?_;refine GT_nil ?_;refine GE_block ?_;refine GE_to (GE_loop (ι := Nat × (Option Addr × Nat × Items) × (Option Addr × Nat × Items)) (fun x => d.length - x.1) (fun x => [(2, I side), (9, ptr b26 0), (27, .slice A2 d.length c2), (28, I d.length), (29, I x.1)]) (fun x => (b26, blk [.slice A p.length c, .slice x.2.1.1 ((serS d).take x.1).length x.2.1.2.1, .slice x.2.2.1 ((stmS d side).take x.1).length x.2.2.2.1] 127) :: (x.2.1.2.2 ++ x.2.2.2.2)) (fun x => x.1 ≤ d.length ∧ Own 1 2 eI ((serS d).take x.1) (.slice x.2.1.1 ((serS d).take x.1).length x.2.1.2.1) x.2.1.2.2 ∧ Own 1 3 eI ((stmS d side).take x.1) (.slice x.2.2.1 ((stmS d side).take x.1).length x.2.2.2.1) x.2.2.2.2) ?_ (0, (none, 0, []), (none, 0, [])) ?_) ⟨rfl, rfl, rfl, rfl, rfl, trivial⟩ (HS.cons rfl (HS.chunk (I := []) HS.nil))
      · rintro ⟨k, ⟨As, cs, Is⟩, Am, cm, Im⟩ ⟨hk, hO1, hO2⟩ ih; dsimp only at hk hO1 hO2 ih ⊢
        refine Zp 1 [] rfl ?_;refine GT_S rfl (V_lss rfl rfl rfl) ?_;refine Zz ?_;refine GE_cond rfl (fun h3 => ?_) (fun h3 => ?_)
        · have hkl : k < d.length := (by omega); have hst := ofS_in (side := side) hR.dsok hkl; have hpl := hR.pl; have e1 : (serS d).take k ++ [(d.getD k default).ser] = (serS d).take (k + 1) := (by rw [List.take_succ_eq_append_getElem (by omega), ← serS_get hkl]; simp [List.getD, hl1, hkl]); have e2 : (stmS d side).take k ++ [ofS (d.getD k default) side] = (stmS d side).take (k + 1) := (by rw [List.take_succ_eq_append_getElem (by omega), ← stmS_get hkl]; simp [List.getD, hl2, hkl]); have hk1 := hts k hk; have hk2 := htm k hk
          refine GE_skip ?_;refine GE_seq ?_;refine GE_block ?_;refine Zp 4 [2, 3] rfl ?_;refine GT_S rfl (V_index rfl rfl rfl Tryz.underlying36 sz_47 (k := k) rfl hkl (hd.isSome hkl)) ?_;refine GT_S rfl (V_loadN (vs := [_, _, _, _, _, _, _]) rfl rfl ag_47 sz_47 rfl (hd.ats noM hkl)) ?_;refine Zb rfl zc_47 fun b11 => ?_;refine ZS [_, _, _, _, _, _, _] [_, _, _, _, _, _, _] rfl rfl sz_47 rfl rfl rfl ?_;refine Zz ?_;refine GE_drawn (.st 0 (.st 1 (.st 2 (.st 3 (.st 4 (.st 5 (.st 6 (.ld 7 [0, 1, 2, 3, 4] (.ld 8 [0] (.st 9 (.st 10 (.ld 11 [] .nil)))))))))))) [7, 8, 11] (by decide +kernel) ?_;refine Zr 3 rfl ?_;refine Zg rfl fo_127_1 rfl ag_43 rfl ?_;refine Zg rfl fo_47_0 rfl ag_2 rfl ?_;refine GT_buildSlice (z := [_]) rfl rfl rfl rfl rfl Tryz.underlying43 zc_2 sz_2 (by decide) rfl rfl (fun _ => Rv rfl rfl (Rv rfl rfl (Rv rfl rfl (Rf rfl fo_127_1 rfl (Rl rfl ag_43 rfl rfl GR_nil))))) (fun b40 => ?_);refine GT_append (enc := eI) (m := [(d.getD k default).ser]) rfl rfl rfl rfl rfl rfl rfl hO1 (fun w m => RdL.own' m eI_len) Tryz.underlying43 zc_2 sz_2 ⟨rfl, by decide⟩ by_2 ⟨by simp only [List.length_singleton]; omega, by simp only [List.length_singleton]; omega⟩ eI_len eI_one (fun _ _ _ _ => Rv rfl rfl GR_nil) (fun As' cs' Is' hO1' => ?_)
          refine Zv rfl ?_;refine Zf rfl fo_127_1 ?_;refine ZS [_] [_, _, _] rfl rfl sz_43 rfl rfl rfl ?_;refine GT_nil ?_;refine Zs [2, 9, 11, 27, 28, 29] rfl ?_;refine GE_drawn (.st 0 (.st 1 (.st 2 (.st 3 (.st 4 (.st 5 (.st 6 (.st 7 (.st 8 (.st 9 (.st 10 (.st 11 (.st 12 (.ld 13 [0, 1, 2, 3, 4] (.ld 14 [0] (.st 15 (.st 16 (.ld 17 [] .nil)))))))))))))))))) [13, 14, 17] (by decide +kernel) ?_;refine Zr 3 rfl ?_;refine Zg rfl fo_127_2 rfl ag_38 rfl ?_;refine Zg rfl fo_47_1 rfl ag_2 rfl ?_;refine Zg rfl fo_47_2 rfl ag_2 rfl ?_;refine GT_S rfl (V_build (vs := [_, _]) rfl rfl zc_68 pl_68 sa_68 rfl) ?_;refine Zv rfl ?_;refine GT_S rfl (V_indexAgg rfl rfl rfl Tryz.underlying68 ag_2 sz_2 (kk := side.toNat) (v := I (ofS (d.getD k default) side + 1)) (by have := hR.side; omega) (by have := hR.side; omega) (by unfold ofS; rcases hR.side with rfl | rfl <;> simp)) ?_;refine GT_S rfl (V_sub rfl rfl rfl ((show IntKind.i64.wrap (ofS (d.getD k default) side + 1 - 1) = ofS (d.getD k default) side from (wrap_i64 (by omega)).trans (by omega)))) ?_;refine GT_buildSlice (z := [_]) rfl rfl rfl rfl rfl Tryz.underlying38 zc_3 sz_3 (by decide) rfl rfl (fun _ => Rv rfl rfl (Rv rfl rfl (Rv rfl rfl (Rf rfl fo_127_2 rfl (Rl rfl ag_38 rfl rfl GR_nil))))) (fun b57 => ?_);refine GT_append (enc := eI) (m := [ofS (d.getD k default) side]) rfl rfl rfl rfl rfl rfl rfl hO2 (fun w m => RdL.own' m eI_len) Tryz.underlying38 zc_3 sz_3 ⟨rfl, by decide⟩ by_3 ⟨by simp only [List.length_singleton]; omega, by simp only [List.length_singleton]; omega⟩ eI_len eI_one (fun _ _ _ _ => Rv rfl rfl GR_nil) (fun Am' cm' Im' hO2' => ?_);refine Zv rfl ?_;refine Zf rfl fo_127_2 ?_;refine ZS [_] [_, _, _] rfl rfl sz_38 rfl rfl rfl ?_;refine GT_nil ?_;refine GE_inBlock ?_;refine Zs [2, 9, 27, 28, 29] rfl ?_;refine ZP 2 [1] rfl ?_;refine Za rfl (by omega) ?_;refine Zw rfl ?_;refine GT_nil ?_
          rw [e1] at hO1' ⊢; rw [e2] at hO2' ⊢; exact GE_to (ih (k + 1, (As', cs', Is'), (Am', cm', Im')) ⟨by dsimp only; omega, hO1', hO2'⟩ (by dsimp only; omega)) ⟨rfl, rfl, rfl, rfl, rfl, trivial⟩ (HS.cons rfl (HS.chunk HS.last))
        · obtain rfl : k = d.length := (by omega); rw [List.take_of_length_le (by omega)] at hO1; rw [List.take_of_length_le (by omega)] at hO2
          refine GE_exit rfl ?_;refine Zq [9] 3 [] rfl rfl ?_;refine Zr 3 rfl ?_;refine GT_nil ?_;refine GE_ret Tryz.func48 ⟨_, _, rfl, rfl, rfl⟩ (fun w hw => ?_);refine ⟨(b26, (As, cs, Is), (Am, cm, Im)), ⟨hO1, hO2⟩, rfl, ?_⟩;dsimp only [roomC];rw [hts _ (Nat.le_refl _), htm _ (Nat.le_refl _)] at hw;exact hw
      · exact ⟨Nat.zero_le _, Own.nil, Own.nil⟩
    · refine Zp 6 [] rfl ?_;refine Zv rfl ?_;refine GT_S rfl (V_neq rfl rfl rfl) ?_;refine Zv rfl ?_;refine GT_splitNot (d := 20) rfl (fun h1 => ?_) (fun h1 => ?_)
      · refine Zv rfl ?_;refine GT_S rfl (V_neq rfl rfl rfl) ?_;refine Zv rfl ?_;refine GT_nil ?_;refine GE_condNot rfl (fun h2 => ?_) (fun h2 => ?_)
        · exact absurd hR.side (by omega)
        · refine GE_skip ?_
          exact GE_to (hk6 () trivial) ⟨rfl, rfl, rfl, trivial⟩ HS.nil
      · refine Zr 3 rfl ?_;refine GT_nil ?_;refine GE_cond_f rfl ?_;refine GE_skip ?_
        exact GE_to (hk6 () trivial) ⟨rfl, rfl, rfl, trivial⟩ HS.nil
end
end Go.Proofs.YtncleikbggjmjaaGreatDoor.Lis
/- Who descends from a plate; sets; searching: walked. -/
namespace Go.Proofs.YtncleikbggjmjaaGreatDoor.Lis
open Go.Sx Go.Proofs
theorem ext_getD {α : Type} [Inhabited α] {l m : List α} (hl : l.length = m.length) (h : ∀ q, q < l.length → l.getD q default = m.getD q default) : l = m := by
  apply List.ext_getElem hl
  intro i h1 h2
  have := h i h1
  simpa [List.getD, h1, h2] using this
theorem getD_set {α : Type} [Inhabited α] {l : List α} {k q : Nat} {x : α} (hk : k < l.length) : (l.set k x).getD q default = if q = k then x else l.getD q default := by
  simp only [List.getD, List.getElem?_set]
  by_cases h : q = k
  · subst h; simp [hk]
  · rw [if_neg (fun e => h e.symm), if_neg h]
structure RoomW (w : World) (g : Nat) (A A3 A4 : Option Addr) (c c3 c4 : Nat) (p : List Plt) (d : List Dsc) (side : Int) : Prop where
  blk : BlkAt w g (roomC A A3 A4 p.length d.length c c3 c4) 127
  pl : RdL w 7 ePlt A p
  ser : RdL w 1 eI A3 (serS d)
  stm : RdL w 1 eI A4 (stmS d side)
theorem RoomW.sh {w w' : World} {g : Nat} {A A3 A4 : Option Addr} {c c3 c4 : Nat} {p : List Plt} {d : List Dsc} {side : Int} {H : Items} (h : RoomW w g A A3 A4 c c3 c4 p d side) (m : SH w none' H w') : RoomW w' g A A3 A4 c c3 c4 p d side :=
  ⟨h.blk.sh m, h.pl.sh m, h.ser.sh m, h.stm.sh m⟩
theorem under1_of {p : List Plt} {plate frm s t c : Int} (h : climb p plate p.length s p.length = (t, c)) : under1 p plate frm s = (decide (t = plate) && decide (frm ≤ c)) := by unfold under1; rw [h]
theorem under_get {p : List Plt} {d : List Dsc} {side plate frm : Int} {k : Nat} (hk : k < d.length) : (under p d side plate frm).getD k default = under1 p plate frm (ofS (d.getD k default) side) := by
  simp [under, stmS, List.getD, hk]
section
variable {p : List Plt} {d : List Dsc} {A A3 A4 : Option Addr} {c c3 c4 g : Nat} {side : Int} {w : World}
set_option maxRecDepth 10000 in
theorem C_under {plate frm : Int} (hr : RoomW w g A A3 A4 c c3 c4 p d side) (hR : Room p d side) :
    Con Tryz.prog 76 [ptr g 0, I plate, I frm] w (fun y : Nat × Items => Own 1 4 eB (under p d side plate frm) (.slice (some ⟨y.1, 0, none⟩) d.length d.length) y.2)
      (fun y => .slice (some ⟨y.1, 0, none⟩) d.length d.length) (fun y => y.2) := by
  have hls := serS_len d
  have hlm := stmS_len d side
  have hdl := hR.dl
  have hpl := hR.pl
  have hul := under_len p d side plate frm
  refine Ret_of (vs := [_, _, _]) hm none' Tryz.func76 rfl Tryz.ntmps76 rfl ?_
  dsimp only [slotsOf]
  refine Zp 1 [] rfl ?_;refine Zv rfl ?_;refine GT_nil ?_;refine Zp 7 [5] rfl ?_;refine Zr 2 rfl ?_;refine Zf rfl fo_127_1 ?_;refine ZL rfl ag_43 (CellAt.old (hr.blk.cell rfl) (noM _)) ?_;refine Zn rfl Tryz.underlying43 ?_;refine GT_makeSlice rfl rfl rfl rfl rfl rfl rfl Tryz.underlying93 zc_4 sz_4 by_4 ⟨rfl, rfl, rfl⟩ ⟨by omega, by omega⟩ (fun _ => GR_nil) (fun b16 => ?_);refine Zv rfl ?_;refine Zz ?_;refine Zq [0, 1, 2, 7] 6 [] rfl rfl ?_;refine Zr 2 rfl ?_;refine Zf rfl fo_127_2 ?_;refine ZL rfl ag_38 (CellAt.old (hr.blk.cell rfl) (noM _)) ?_;refine Zn rfl Tryz.underlying38 ?_;refine Zv rfl ?_;refine GT_nil ?_;refine GE_block ?_;refine GE_to (GE_loop (ι := Nat × List Bool × Items) (fun x => d.length - x.1) (fun x => [(0, ptr g 0), (1, I plate), (2, I frm), (7, .slice (some ⟨b16, 0, none⟩) d.length d.length), (20, .slice A4 d.length c4), (21, I d.length), (22, I x.1)]) (fun x => x.2.2) (fun x => x.1 ≤ d.length ∧ x.2.1.length = d.length ∧ (∀ q, q < x.1 → x.2.1.getD q default = (under p d side plate frm).getD q default) ∧ Own 1 4 eB x.2.1 (.slice (some ⟨b16, 0, none⟩) d.length d.length) x.2.2) ?_ (0, List.replicate d.length false, [(b16, blk ((List.replicate d.length [.bool false]).flatten) 4)]) ?_) ⟨rfl, rfl, rfl, rfl, rfl, rfl, rfl, trivial⟩ HS.last
  · rintro ⟨k, l, I1⟩ ⟨hk, hll, hlq, hO⟩ ih; dsimp only at hk hll hlq hO ih ⊢
    refine Zp 1 [] rfl ?_;refine GT_S rfl (V_lss rfl rfl rfl) ?_;refine Zz ?_;refine GE_cond rfl (fun h1 => ?_) (fun h1 => ?_)
    · have hkl : k < d.length := (by omega); have hs0 := ofS_in (side := side) hR.dsok hkl
      refine GE_skip ?_;refine GE_seq ?_;refine GE_block ?_;refine Zp 5 [] rfl ?_;refine Zv rfl ?_;refine GT_S rfl (V_index rfl rfl rfl Tryz.underlying38 sz_3 (k := k) rfl hkl (hr.stm.isSome (k := k) (by omega))) ?_;refine ZL rfl ag_3 (hr.stm.at0 noM (by omega) (by rw [stmS_get hkl]; rfl)) ?_;refine Zr 2 rfl ?_;refine GT_nil ?_;refine Zq [0, 1, 2, 7, 8, 9, 20, 21, 22] 6 [] rfl rfl ?_;refine Zr 2 rfl ?_;refine Zf rfl fo_127_0 ?_;refine ZL rfl ag_34 (CellAt.old (hr.blk.cell rfl) (noM _)) ?_;refine Zn rfl Tryz.underlying34 ?_;refine Zv rfl ?_;refine Zz ?_;refine GE_block ?_;refine GE_to (GE_loop (ι := Int × Int × Nat) (fun x => (x.1 + 1).toNat) (fun x => [(0, ptr g 0), (1, I plate), (2, I frm), (7, .slice (some ⟨b16, 0, none⟩) d.length d.length), (8, I k), (9, I x.1), (10, I x.2.1), (20, .slice A4 d.length c4), (21, I d.length), (22, I k)]) (fun x => I1) (fun x => -1 ≤ x.1 ∧ x.1 < p.length ∧ x.1 < x.2.2 ∧ climb p plate x.2.2 x.1 x.2.1 = climb p plate p.length (ofS (d.getD k default) side) p.length) ?_ (ofS (d.getD k default) side, p.length, p.length) ?_) ⟨rfl, rfl, rfl, rfl, rfl, rfl, rfl, rfl, rfl, rfl, trivial⟩ HS.last
      · rintro ⟨s, cc, f⟩ ⟨hs1, hs2, hsf, hcl⟩ ih2; dsimp only at hs1 hs2 hsf hcl ih2 ⊢
        refine GE_seq ?_;refine Zp 7 [] rfl ?_;refine Zr 2 rfl ?_;refine GT_S rfl (V_neq rfl rfl rfl) ?_;refine Zv rfl ?_;refine GT_splitNot (d := 35) rfl (fun h2 => ?_) (fun h2 => ?_)
        · refine Zv rfl ?_;refine GT_S rfl (V_geq rfl rfl rfl) ?_;refine Zv rfl ?_;refine GT_nil ?_;refine GE_cond rfl (fun h3 => ?_) (fun h3 => ?_)
          · have hpa := Room.plate hR.plok (i := s.toNat) (by omega)
            refine GE_skip ?_;refine GE_block ?_;refine Zs [0, 1, 2, 7, 8, 9, 20, 21, 22, 36, 37] rfl ?_;refine ZP 11 [9] rfl ?_;refine Zr 2 rfl ?_;refine Zf rfl fo_127_0 ?_;refine ZL rfl ag_34 (CellAt.old (hr.blk.cell rfl) (noM _)) ?_;refine Zv rfl ?_;refine GT_S rfl (V_index rfl rfl rfl Tryz.underlying34 sz_78 (k := s.toNat) (by omega) (by omega) (hr.pl.isSome (k := s.toNat) (by omega))) ?_;refine GT_S rfl (V_fieldA rfl rfl fo_78_1) ?_;refine ZL rfl ag_3 (hr.pl.at1 noM (by omega) rfl) ?_;refine Zv rfl ?_;refine Zw rfl ?_;refine Zv rfl ?_;refine GT_nil ?_;refine GE_inBlock ?_
            exact GE_to (ih2 ((p.getD s.toNat default).par, s, f - 1) ⟨by dsimp only; omega, by dsimp only; omega, by dsimp only; omega, by dsimp only; rw [← hcl]; conv => (rhs; rw [show f = (f - 1) + 1 by omega, climb_go ⟨h2, h3⟩])⟩ (by dsimp only; omega)) ⟨rfl, rfl, rfl, rfl, rfl, rfl, rfl, rfl, rfl, rfl, trivial⟩ HS.last
          · rw [climb_stop (by omega)] at hcl; have hu1 := under1_of (frm := frm) hcl.symm
            refine GE_exit rfl ?_;refine Zs [0, 1, 2, 7, 8, 9, 10, 20, 21, 22, 36, 37] rfl ?_;refine ZP 12 [11] rfl ?_;refine Zr 4 rfl ?_;refine GT_S rfl (V_eql rfl rfl rfl) ?_;refine Zv rfl ?_;refine GT_split (d := 53) rfl (fun h4 => ?_) (fun h4 => ?_)
            · refine Zr 2 rfl ?_;refine GT_S rfl (V_geq rfl rfl rfl) ?_;refine Zv rfl ?_;refine GT_S rfl (V_index rfl rfl rfl Tryz.underlying93 sz_4 (k := k) rfl hkl rfl) ?_;refine GT_storeOwn (enc := eB) (q := k) (xx := under1 p plate frm (ofS (d.getD k default) side)) rfl rfl rfl rfl rfl rfl (by rw [hu1]; simp [eB, h4, Value.cells]) sz_4 hO eB_len eB_one (by omega) (by decide) (fun _ _ => GR_nil) (fun I2 hO2 => ?_);refine GT_nil ?_;refine GE_inBlock ?_;refine Zs [0, 1, 2, 7, 20, 21, 22, 36, 37, 54, 55, 56] rfl ?_;refine ZP 2 [1] rfl ?_;refine Za rfl (by omega) ?_;refine Zw rfl ?_;refine GT_nil ?_
              exact GE_to (ih (k + 1, _, I2) ⟨by dsimp only; omega, by simpa using hll, fun q hq => by dsimp only; rw [getD_set (by omega)]; by_cases e : q = k; rw [if_pos e, e]; exact (under_get hkl).symm; rw [if_neg e]; exact hlq q (by omega), hO2⟩ (by dsimp only; omega)) ⟨rfl, rfl, rfl, rfl, rfl, rfl, rfl, trivial⟩ HS.last
            · refine Zr 4 rfl ?_;refine GT_S rfl (V_index rfl rfl rfl Tryz.underlying93 sz_4 (k := k) rfl hkl rfl) ?_;refine GT_storeOwn (enc := eB) (q := k) (xx := under1 p plate frm (ofS (d.getD k default) side)) rfl rfl rfl rfl rfl rfl (by rw [hu1]; simp [eB, h4, Value.cells]) sz_4 hO eB_len eB_one (by omega) (by decide) (fun _ _ => GR_nil) (fun I2 hO2 => ?_);refine GT_nil ?_;refine GE_inBlock ?_;refine Zs [0, 1, 2, 7, 20, 21, 22, 36, 37, 54, 55, 56] rfl ?_;refine ZP 2 [1] rfl ?_;refine Za rfl (by omega) ?_;refine Zw rfl ?_;refine GT_nil ?_
              exact GE_to (ih (k + 1, _, I2) ⟨by dsimp only; omega, by simpa using hll, fun q hq => by dsimp only; rw [getD_set (by omega)]; by_cases e : q = k; rw [if_pos e, e]; exact (under_get hkl).symm; rw [if_neg e]; exact hlq q (by omega), hO2⟩ (by dsimp only; omega)) ⟨rfl, rfl, rfl, rfl, rfl, rfl, rfl, trivial⟩ HS.last
        · rw [climb_stop (by omega)] at hcl; have hu1 := under1_of (frm := frm) hcl.symm
          refine Zr 3 rfl ?_;refine GT_nil ?_;refine GE_cond_f rfl ?_;refine GE_exit rfl ?_;refine Zs [0, 1, 2, 7, 8, 9, 10, 20, 21, 22, 36, 37] rfl ?_;refine ZP 12 [11] rfl ?_;refine Zr 4 rfl ?_;refine GT_S rfl (V_eql rfl rfl rfl) ?_;refine Zv rfl ?_;refine GT_split (d := 53) rfl (fun h4 => ?_) (fun h4 => ?_)
          · refine Zr 2 rfl ?_;refine GT_S rfl (V_geq rfl rfl rfl) ?_;refine Zv rfl ?_;refine GT_S rfl (V_index rfl rfl rfl Tryz.underlying93 sz_4 (k := k) rfl hkl rfl) ?_;refine GT_storeOwn (enc := eB) (q := k) (xx := under1 p plate frm (ofS (d.getD k default) side)) rfl rfl rfl rfl rfl rfl (by rw [hu1]; simp [eB, h4, Value.cells]) sz_4 hO eB_len eB_one (by omega) (by decide) (fun _ _ => GR_nil) (fun I2 hO2 => ?_);refine GT_nil ?_;refine GE_inBlock ?_;refine Zs [0, 1, 2, 7, 20, 21, 22, 36, 37, 54, 55, 56] rfl ?_;refine ZP 2 [1] rfl ?_;refine Za rfl (by omega) ?_;refine Zw rfl ?_;refine GT_nil ?_
            exact GE_to (ih (k + 1, _, I2) ⟨by dsimp only; omega, by simpa using hll, fun q hq => by dsimp only; rw [getD_set (by omega)]; by_cases e : q = k; rw [if_pos e, e]; exact (under_get hkl).symm; rw [if_neg e]; exact hlq q (by omega), hO2⟩ (by dsimp only; omega)) ⟨rfl, rfl, rfl, rfl, rfl, rfl, rfl, trivial⟩ HS.last
          · refine Zr 4 rfl ?_;refine GT_S rfl (V_index rfl rfl rfl Tryz.underlying93 sz_4 (k := k) rfl hkl rfl) ?_;refine GT_storeOwn (enc := eB) (q := k) (xx := under1 p plate frm (ofS (d.getD k default) side)) rfl rfl rfl rfl rfl rfl (by rw [hu1]; simp [eB, h4, Value.cells]) sz_4 hO eB_len eB_one (by omega) (by decide) (fun _ _ => GR_nil) (fun I2 hO2 => ?_);refine GT_nil ?_;refine GE_inBlock ?_;refine Zs [0, 1, 2, 7, 20, 21, 22, 36, 37, 54, 55, 56] rfl ?_;refine ZP 2 [1] rfl ?_;refine Za rfl (by omega) ?_;refine Zw rfl ?_;refine GT_nil ?_
            exact GE_to (ih (k + 1, _, I2) ⟨by dsimp only; omega, by simpa using hll, fun q hq => by dsimp only; rw [getD_set (by omega)]; by_cases e : q = k; rw [if_pos e, e]; exact (under_get hkl).symm; rw [if_neg e]; exact hlq q (by omega), hO2⟩ (by dsimp only; omega)) ⟨rfl, rfl, rfl, rfl, rfl, rfl, rfl, trivial⟩ HS.last
      · exact ⟨by dsimp only; omega, by dsimp only; omega, by dsimp only; omega, rfl⟩
    · obtain rfl : k = d.length := (by omega); obtain rfl := ext_getD (by omega) (fun q hq => hlq q (by omega))
      refine GE_exit rfl ?_;refine Zq [7] 2 [] rfl rfl ?_;refine Zr 2 rfl ?_;refine GT_nil ?_;refine GE_ret Tryz.func76 rfl (fun w hw => ⟨(b16, I1), hO, rfl, hw⟩)
      skip
  · exact ⟨Nat.zero_le _, by simp, fun q hq => absurd hq (Nat.not_lt_zero _), Own.made (x := false) rfl (Nat.le_trans hdl (by decide))⟩
end
end Go.Proofs.YtncleikbggjmjaaGreatDoor.Lis
/- Sets, searching, and all causes: walked. -/
namespace Go.Proofs.YtncleikbggjmjaaGreatDoor.Lis
open Go.Sx Go.Proofs
section
variable {p : List Plt} {d : List Dsc} {A A2 A3 A4 : Option Addr} {c c2 c3 c4 g : Nat} {side : Int} {w : World}
theorem C_slices_Clone {l : List Bool} {a : Addr} (hl : RdL w 1 eB (some a) l) (hn : l.length ≤ 1000000) :
    Con Tryz.prog 95 [.slice (some a) l.length c] w (fun y : Option Addr × Nat × Items => Own 1 4 eB l (.slice y.1 l.length y.2.1) y.2.2) (fun y => .slice y.1 l.length y.2.1) (fun y => y.2.2) := by
  refine Ret_of (vs := [_]) hm none' Tryz.func95 rfl Tryz.ntmps95 rfl ?_
  dsimp only [slotsOf]
  refine Zp 1 [] rfl ?_;refine Zv rfl ?_;refine Zz ?_;refine Zp 2 [] rfl ?_;refine Zv rfl ?_;refine GT_S rfl (V_eqlNilF rfl rfl rfl Tryz.underlying93) ?_;refine GT_nil ?_;refine GE_cond_f rfl ?_;refine GE_skip ?_;refine Zp 4 [0, 2] rfl ?_;refine GT_buildSlice (z := []) rfl rfl rfl rfl rfl Tryz.underlying93 zc_4 sz_4 (by decide) rfl rfl (fun _ => GR_nil) (fun b5 => ?_);refine Zv rfl ?_;refine GT_append (enc := eB) (l := []) (m := l) rfl rfl rfl rfl rfl rfl rfl (show Own 1 4 eB [] (.slice (some ⟨b5, 0, none⟩) 0 0) [(b5, blk [] 4)] from Own.lit rfl rfl (by decide)) (fun w m => hl.sh m) Tryz.underlying93 zc_4 sz_4 ⟨rfl, by decide⟩ by_4 ⟨by simp only [List.length_nil]; omega, by simp only [List.length_nil]; omega⟩ eB_len eB_one (fun _ _ _ _ => GR_nil) (fun A7 c7 I7 hO7 => ?_);refine Zv rfl ?_;refine GT_nil ?_;refine GE_ret Tryz.func95 rfl (fun w hw => ?_)
  exact ⟨(A7, c7, I7), hO7, rfl, hw.chunk⟩
theorem C_from {l : List Bool} {a : Addr} {v0 : Value} {k : Nat} (hv0 : v0.oneCell' = true) (hl : RdL w 1 eB (some a) l) (hn : l.length ≤ 1000000) (hk : k ≤ l.length) :
    Con Tryz.prog 77 [v0, .slice (some a) l.length c, I k] w (fun y : Option Addr × Nat × Items => Own 1 4 eB (fromK l k) (.slice y.1 (fromK l k).length y.2.1) y.2.2) (fun y => .slice y.1 (fromK l k).length y.2.1) (fun y => y.2.2) := by
  have hfl := fromK_len l k
  have hfk : fromK l k = List.replicate k false ++ l.drop k := by unfold fromK; rw [Nat.min_eq_left hk]
  refine Ret_of (vs := [_, _, _]) hm none' Tryz.func77 rfl Tryz.ntmps77 rfl ?_
  dsimp only [slotsOf]
  refine Zp 1 [] rfl ?_;refine Zv rfl ?_;refine GT_nil ?_;refine Zp 3 [1] rfl ?_;refine Zv rfl ?_;refine ZC rfl rn_95 (fun w hw => C_slices_Clone (hl.sh hw) hn) (fun _ _ => GR_nil) (fun y hy => ?_)
  have hcap : l.length ≤ y.2.1 := (by obtain ⟨A', c', e, h⟩ := hy.form; cases e; exact h)
  refine Zv rfl ?_;refine GT_nil ?_;refine Zq [2, 7] 4 [3] rfl rfl ?_;refine Zr 2 rfl ?_;refine GT_S rfl (V_sliceTo rfl rfl rfl Tryz.underlying93 (by rw [sz_4]; rfl) (h := k) (by omega)) ?_;refine GT_clear (enc := eB) (q := k) (xx := false) rfl rfl rfl rfl rfl hy Tryz.underlying93 zc_4 eB_len rfl rfl hk (fun _ _ => GR_nil) (fun I' hO' => ?_);refine GT_nil ?_;refine Zq [7] 2 [] rfl rfl ?_;refine Zr 2 rfl ?_;refine GT_nil ?_;refine GE_ret Tryz.func77 rfl (fun w hw => ?_)
  rw [hfl]; rw [← hfk] at hO'; exact ⟨(y.1, y.2.1, I'), hO', rfl, hw.chunk⟩
theorem C_cmp_isNaN {x : Int} : Con0 Tryz.prog 94 [I x] w (.bool false) := by
  refine Ret_of (vs := [_]) hm none' Tryz.func94 rfl Tryz.ntmps94 rfl ?_
  dsimp only [slotsOf]
  refine Zp 1 [] rfl ?_;refine Zv rfl ?_;refine GT_nil ?_;refine Zp 4 [] rfl ?_;refine Zr 2 rfl ?_;refine GT_S rfl (V_neq rfl rfl rfl) ?_;refine Zv rfl ?_;refine GT_nil ?_;refine GE_ret Tryz.func94 rfl (fun w hw => ⟨?_, hw.nil⟩)
  simp
theorem C_slices_isNaN {x : Int} : Con0 Tryz.prog 74 [I x] w (.bool false) := by
  refine Ret_of (vs := [_]) hm none' Tryz.func74 rfl Tryz.ntmps74 rfl ?_
  dsimp only [slotsOf]
  refine Zp 1 [] rfl ?_;refine Zv rfl ?_;refine GT_nil ?_;refine Zp 4 [] rfl ?_;refine Zr 2 rfl ?_;refine GT_S rfl (V_neq rfl rfl rfl) ?_;refine Zv rfl ?_;refine GT_nil ?_;refine GE_ret Tryz.func74 rfl (fun w hw => ⟨?_, hw.nil⟩)
  simp
theorem C_cmp_Less {x y : Int} : Con0 Tryz.prog 73 [I x, I y] w (.bool (decide (x < y))) := by
  refine Ret_of (vs := [_, _]) hm none' Tryz.func73 rfl Tryz.ntmps73 rfl ?_
  dsimp only [slotsOf]
  refine Zp 1 [] rfl ?_;refine Zv rfl ?_;refine GT_nil ?_;refine Zp 13 [1, 4] rfl ?_;refine Zv rfl ?_;refine Zc rfl rn_94 (fun w hw => C_cmp_isNaN) GR_nil ?_;refine Zr 2 rfl ?_;refine GT_skip_ld rfl rfl rfl rfl rfl (by decide) rfl rfl rfl GR_nil ?_;refine Zr 5 rfl ?_;refine GT_S rfl (V_lss rfl rfl rfl) ?_;refine Zr 2 rfl ?_;refine GT_nil ?_;refine GE_ret Tryz.func73 rfl (fun w hw => ⟨?_, hw.nil⟩)
  rfl
theorem C_slices_BinarySearch {x : Int} (hr : RdL w 1 eI A (serS d)) (hd : DsOk p d) (hn : d.length ≤ 200) (hnl : c2 = d.length) :
    Con Tryz.prog 49 [.slice A c2 c, I x] w (fun i : Nat => known d x = true → i < d.length ∧ (d.getD i default).ser = x ∧ idxS d x = i) (fun i => .tuple #[I i, .bool (known d x)]) (fun _ => []) := by
  subst hnl
  have hsl := serS_len d
  refine Ret_of (vs := [_, _]) hm none' Tryz.func49 rfl Tryz.ntmps49 rfl ?_
  dsimp only [slotsOf]
  refine Zp 2 [] rfl ?_;refine Zr 2 rfl ?_;refine GT_nil ?_;refine Zp 3 [] rfl ?_;refine Zv rfl ?_;refine Zn rfl Tryz.underlying43 ?_;refine Zv rfl ?_;refine GT_nil ?_;refine Zq [0, 1, 6] 3 [] rfl rfl ?_;refine Zr 3 rfl ?_;refine Zz ?_;refine GE_block ?_;refine GE_to (GE_loop (ι := Nat × Nat) (fun y => y.2 - y.1) (fun y => [(0, .slice A d.length c), (1, I x), (6, I d.length), (7, I y.1), (8, I y.2)]) (fun y => []) (fun y => y.1 ≤ y.2 ∧ y.2 ≤ d.length ∧ (∀ q, q < y.1 → (d.getD q default).ser < x) ∧ (∀ q, y.2 ≤ q → q < d.length → x ≤ (d.getD q default).ser)) ?_ (0, d.length) ?_) ⟨rfl, rfl, rfl, rfl, rfl, trivial⟩ HS.nil
  · rintro ⟨i, j⟩ ⟨hij, hj, hlo, hhi⟩ ih; dsimp only at hij hj hlo hhi ih ⊢
    refine GE_seq ?_;refine Zp 3 [] rfl ?_;refine Zr 2 rfl ?_;refine GT_S rfl (V_lss rfl rfl rfl) ?_;refine GT_nil ?_;refine GE_cond rfl (fun h1 => ?_) (fun h1 => ?_)
    · have hlt : i < j := (by omega); have hm1 : (i + j) / 2 < d.length := (by omega)
      refine GE_skip ?_;refine GE_block ?_;refine Zp 7 [] rfl ?_;refine Zr 2 rfl ?_;refine Za rfl (by omega) ?_;refine GT_S rfl (V_convII rfl rfl (by rw [Tryz.underlying3]; rfl) Tryz.underlying169 (wrap_u64 (by omega))) ?_;refine GT_S rfl (V_shr (s := 1) (d := 2) rfl rfl rfl (by decide) (by decide)) ?_;refine GT_S rfl (V_convII rfl rfl (by rw [Tryz.underlying169]; rfl) Tryz.underlying3 (((wrap_i64 (by omega)).trans (show _ = (((i + j) / 2 : Nat) : Int) by omega)))) ?_;refine Zv rfl ?_;refine GT_nil ?_;refine Zq [0, 1, 6, 7, 8, 9] 6 [5] rfl rfl ?_;refine Zr 2 rfl ?_;refine GT_S rfl (V_index rfl rfl rfl Tryz.underlying43 sz_2 (k := (i + j) / 2) rfl hm1 (hr.isSome (k := (i + j) / 2) (by omega))) ?_;refine ZL rfl ag_2 (hr.at0 noM (by omega) (by rw [serS_get hm1]; rfl)) ?_;refine Zv rfl ?_;refine Zc rfl rn_73 (fun w hw => C_cmp_Less) GR_nil ?_;refine GT_nil ?_;refine GE_cond rfl (fun h2 => ?_) (fun h2 => ?_)
      · refine Zs [0, 1, 6, 8, 9] rfl ?_;refine ZP 3 [] rfl ?_;refine Zv rfl ?_;refine Za rfl (by omega) ?_;refine Zv rfl ?_;refine GT_nil ?_;refine GE_inBlock ?_
        first
          | exact GE_to (ih ((i + j) / 2 + 1, j) ⟨by dsimp only; omega, hj, (fun q hq => by dsimp only at hq; rcases Nat.lt_or_ge q ((i + j) / 2) with r | r; have := ser_lt hd r hm1; omega; rw [show q = (i + j) / 2 by omega]; exact h2), hhi⟩ (by dsimp only; omega)) ⟨rfl, rfl, rfl, rfl, rfl, trivial⟩ HS.nil
          | exact GE_to (ih (i, (i + j) / 2) ⟨by dsimp only; omega, by dsimp only; omega, hlo, (fun q hq hql => by dsimp only at hq; rcases Nat.lt_or_ge ((i + j) / 2) q with r | r; have := ser_lt hd r hql; omega; rw [show q = (i + j) / 2 by omega]; omega)⟩ (by dsimp only; omega)) ⟨rfl, rfl, rfl, rfl, rfl, trivial⟩ HS.nil
      · refine Zs [0, 1, 6, 7, 9] rfl ?_;refine ZP 2 [] rfl ?_;refine Zr 2 rfl ?_;refine GT_nil ?_;refine GE_inBlock ?_
        first
          | exact GE_to (ih ((i + j) / 2 + 1, j) ⟨by dsimp only; omega, hj, (fun q hq => by dsimp only at hq; rcases Nat.lt_or_ge q ((i + j) / 2) with r | r; have := ser_lt hd r hm1; omega; rw [show q = (i + j) / 2 by omega]; exact h2), hhi⟩ (by dsimp only; omega)) ⟨rfl, rfl, rfl, rfl, rfl, trivial⟩ HS.nil
          | exact GE_to (ih (i, (i + j) / 2) ⟨by dsimp only; omega, by dsimp only; omega, hlo, (fun q hq hql => by dsimp only at hq; rcases Nat.lt_or_ge ((i + j) / 2) q with r | r; have := ser_lt hd r hql; omega; rw [show q = (i + j) / 2 by omega]; omega)⟩ (by dsimp only; omega)) ⟨rfl, rfl, rfl, rfl, rfl, trivial⟩ HS.nil
    · obtain rfl : i = j := (by omega)
      refine GE_exit rfl ?_;refine Zq [0, 1, 6, 7] 25 [16, 19] rfl rfl ?_;refine Zr 3 rfl ?_;refine GT_S rfl (V_lss rfl rfl rfl) ?_;refine Zv rfl ?_;refine GT_split (d := 35) rfl (fun h3 => ?_) (fun h3 => ?_)
      · have hil : i < d.length := (by omega)
        refine Zr 2 rfl ?_;refine GT_S rfl (V_index rfl rfl rfl Tryz.underlying43 sz_2 (k := i) rfl hil (hr.isSome (k := i) (by omega))) ?_;refine ZL rfl ag_2 (hr.at0 noM (by omega) (by rw [serS_get hil]; rfl)) ?_;refine Zv rfl ?_;refine GT_S rfl (V_eql rfl rfl rfl) ?_;refine Zv rfl ?_;refine GT_split (d := 42) rfl (fun h4 => ?_) (fun h4 => ?_)
        · have hyes : known d x = true := known_iff.2 ⟨i, hil, h4⟩
          refine Zr 4 rfl ?_;refine GT_skip_ld rfl rfl rfl rfl rfl (by decide) rfl rfl rfl GR_nil ?_;refine Zr 2 rfl ?_;refine GT_skip_ld rfl rfl rfl rfl rfl (by decide) rfl rfl rfl GR_nil ?_;refine Zr 5 rfl ?_;refine GT_nil ?_;refine GE_ret Tryz.func49 ⟨_, _, rfl, rfl, rfl⟩ (fun w hw => ?_)
          first | exact ⟨i, fun q => (by rw [hno] at q; cases q), by rw [hno], hw.nil⟩ | exact ⟨i, fun _ => ⟨hil, h4, by rw [← h4]; exact idxS_of hd hil⟩, by rw [hyes], hw.nil⟩
        · have hno : known d x = false := (by rw [← Bool.not_eq_true, known_iff]; rintro ⟨q, hq, e⟩; rcases Nat.lt_trichotomy q i with r | r | r; have := hlo q r; omega; subst r; exact h4 e; have := ser_lt hd r hq; have := hhi i (Nat.le_refl _) hil; omega)
          refine Zr 2 rfl ?_;refine GT_S rfl (V_index rfl rfl rfl Tryz.underlying43 sz_2 (k := i) rfl hil (hr.isSome (k := i) (by omega))) ?_;refine ZL rfl ag_2 (hr.at0 noM (by omega) (by rw [serS_get hil]; rfl)) ?_;refine Zc rfl rn_74 (fun w hw => C_slices_isNaN) GR_nil ?_;refine Zr 2 rfl ?_;refine GT_skip_ld rfl rfl rfl rfl rfl (by decide) rfl rfl rfl GR_nil ?_;refine Zr 5 rfl ?_;refine GT_nil ?_;refine GE_ret Tryz.func49 ⟨_, _, rfl, rfl, rfl⟩ (fun w hw => ?_)
          first | exact ⟨i, fun q => (by rw [hno] at q; cases q), by rw [hno], hw.nil⟩ | exact ⟨i, fun _ => ⟨hil, h4, by rw [← h4]; exact idxS_of hd hil⟩, by rw [hyes], hw.nil⟩
      · have hno : known d x = false := (by rw [← Bool.not_eq_true, known_iff]; rintro ⟨q, hq, e⟩; have := hlo q (by omega); omega)
        refine Zr 11 rfl ?_;refine GT_skip_ld rfl rfl rfl rfl rfl (by decide) rfl rfl rfl GR_nil ?_;refine Zr 2 rfl ?_;refine GT_skip_ld rfl rfl rfl rfl rfl (by decide) rfl rfl rfl GR_nil ?_;refine Zr 5 rfl ?_;refine GT_nil ?_;refine GE_ret Tryz.func49 ⟨_, _, rfl, rfl, rfl⟩ (fun w hw => ?_)
        first | exact ⟨i, fun q => (by rw [hno] at q; cases q), by rw [hno], hw.nil⟩ | exact ⟨i, fun _ => ⟨hil, h4, by rw [← h4]; exact idxS_of hd hil⟩, by rw [hyes], hw.nil⟩
  · exact ⟨Nat.zero_le _, Nat.le_refl _, fun i hi => absurd hi (Nat.not_lt_zero _), fun i h1 h2 => by omega⟩
end
end Go.Proofs.YtncleikbggjmjaaGreatDoor.Lis
