/- Texts of this proof, one behind the other: Ta2, Ta3. -/
import Derived.Test.YtncleikbggjmjaaGreatDoorMt0
import Derived.Test.YtncleikbggjmjaaGreatDoorMt16
/- Parts and programmes: which are valid, walked. -/
namespace Go.Proofs.YtncleikbggjmjaaGreatDoor.Take
open Go.Sx Go.Proofs Go.RowKit
section
variable {w : World} {A A2 : Option Addr} {c c2 : Nat}
set_option maxRecDepth 10000 in
theorem C_good {l : List Tk} {x : Prt} {g : Nat} {X Y : Value} (h : Tks w A l) (hg : BlkAt w g [.slice A l.length c, X, Y] 264) :
    Con0 Tryz.prog 141 [ptr g 0, .agg #[I x.tk, I x.fr, I x.to, I x.gap, I x.inn, I x.out, I x.lev]] w (.bool (goodP l x)) := by
  have hd : ∀ q : Bool, (((0 ≤ x.tk ∧ x.tk < (l.length : Int)) ∧ 0 ≤ x.fr ∧ x.fr < x.to ∧ x.to ≤ ((tkOf l x).data.length : Int) ∧ betw x.gap (-4096) 4096 = true ∧ betw x.inn 0 1000 = true ∧ betw x.out 0 1000 = true ∧ betw x.lev 0 4000 = true) ↔ q = true) → Value.bool q = Value.bool (goodP l x) := fun q hq => congrArg Value.bool (by rw [Bool.eq_iff_iff, ← hq, goodP]; simp only [Bool.and_eq_true, decide_eq_true_iff]; simp only [and_assoc])
  refine Ret_of (vs := [_, _]) hm none' Tryz.func141 rfl Tryz.ntmps141 rfl ?_
  dsimp only [slotsOf]
  refine Zp 2 [0] rfl ?_;refine Zx [_, _, _, _, _, _, _] rfl rfl fun b3 => ?_;refine Zv rfl ?_;refine Zz ?_;refine GE_seq ?_;refine GE_drawn (.st 0 (.st 1 (.st 2 (.st 3 (.st 4 (.st 5 (.st 6 (.st 7 (.st 8 (.st 9 (.st 10 (.st 11 (.st 12 (.st 13 (.st 14 (.st 15 (.st 16 (.st 17 (.st 18 (.st 19 (.st 20 (.st 21 (.st 22 (.st 23 (.st 24 (.st 25 (.st 26 (.st 27 (.st 28 (.st 29 (.st 30 (.st 31 (.st 32 (.st 33 (.st 34 (.st 35 (.st 36 (.st 37 (.st 38 (.st 39 .nil)))))))))))))))))))))))))))))))))))))))) [] (by decide +kernel) ?_;refine Zg rfl fo_210_0 rfl ag_3 rfl ?_;refine GT_S rfl (V_lss rfl rfl rfl) ?_;refine Zv rfl ?_;refine GT_split (d := 8) rfl (fun h1 => ?_) (fun h1 => ?_)
  · refine Zr 36 rfl ?_;refine GT_nil ?_;refine GE_cond_t rfl ?_;refine Zq [] 1 [] rfl rfl ?_;refine Zv rfl ?_;refine GT_nil ?_;refine GE_ret Tryz.func141 rfl (fun w hw => ⟨?_, hw.nil⟩)
    refine hd _ ?_;first | exact ⟨fun ⟨⟨a1, a2⟩, a3, a4, a5, a6, a7, a8, a9⟩ => (by first | omega | (unfold tkOf at a5; omega) | exact absurd (h6.symm.trans a6) (by decide) | exact absurd (h7.symm.trans a7) (by decide) | exact absurd (h8.symm.trans a8) (by decide)), fun a => by cases a⟩ | exact ⟨fun a => a.2.2.2.2.2.2.2, fun a => ⟨⟨by omega, by omega⟩, by omega, by omega, by unfold tkOf; omega, h6, h7, h8, a⟩⟩
  · refine Zg rfl fo_210_0 rfl ag_3 rfl ?_;refine Zr 2 rfl ?_;refine Zf rfl fo_264_0 ?_;refine ZL rfl ag_208 (.old (hg.cell rfl) (noM _)) ?_;refine Zn rfl Tryz.underlying208 ?_;refine GT_S rfl (V_geq rfl rfl rfl) ?_;refine Zr 2 rfl ?_;refine GT_split (d := 18) rfl (fun h2 => ?_) (fun h2 => ?_)
    · refine Zr 26 rfl ?_;refine GT_nil ?_;refine GE_cond_t rfl ?_;refine Zq [] 1 [] rfl rfl ?_;refine Zv rfl ?_;refine GT_nil ?_;refine GE_ret Tryz.func141 rfl (fun w hw => ⟨?_, hw.nil⟩)
      refine hd _ ?_;first | exact ⟨fun ⟨⟨a1, a2⟩, a3, a4, a5, a6, a7, a8, a9⟩ => (by first | omega | (unfold tkOf at a5; omega) | exact absurd (h6.symm.trans a6) (by decide) | exact absurd (h7.symm.trans a7) (by decide) | exact absurd (h8.symm.trans a8) (by decide)), fun a => by cases a⟩ | exact ⟨fun a => a.2.2.2.2.2.2.2, fun a => ⟨⟨by omega, by omega⟩, by omega, by omega, by unfold tkOf; omega, h6, h7, h8, a⟩⟩
    · refine Zg rfl fo_210_1 rfl ag_3 rfl ?_;refine GT_S rfl (V_lss rfl rfl rfl) ?_;refine Zr 2 rfl ?_;refine GT_split (d := 23) rfl (fun h3 => ?_) (fun h3 => ?_)
      · refine Zr 21 rfl ?_;refine GT_nil ?_;refine GE_cond_t rfl ?_;refine Zq [] 1 [] rfl rfl ?_;refine Zv rfl ?_;refine GT_nil ?_;refine GE_ret Tryz.func141 rfl (fun w hw => ⟨?_, hw.nil⟩)
        refine hd _ ?_;first | exact ⟨fun ⟨⟨a1, a2⟩, a3, a4, a5, a6, a7, a8, a9⟩ => (by first | omega | (unfold tkOf at a5; omega) | exact absurd (h6.symm.trans a6) (by decide) | exact absurd (h7.symm.trans a7) (by decide) | exact absurd (h8.symm.trans a8) (by decide)), fun a => by cases a⟩ | exact ⟨fun a => a.2.2.2.2.2.2.2, fun a => ⟨⟨by omega, by omega⟩, by omega, by omega, by unfold tkOf; omega, h6, h7, h8, a⟩⟩
      · refine Zg rfl fo_210_1 rfl ag_3 rfl ?_;refine Zg rfl fo_210_2 rfl ag_3 rfl ?_;refine GT_S rfl (V_geq rfl rfl rfl) ?_;refine Zr 2 rfl ?_;refine GT_split (d := 30) rfl (fun h4 => ?_) (fun h4 => ?_)
        · refine Zr 14 rfl ?_;refine GT_nil ?_;refine GE_cond_t rfl ?_;refine Zq [] 1 [] rfl rfl ?_;refine Zv rfl ?_;refine GT_nil ?_;refine GE_ret Tryz.func141 rfl (fun w hw => ⟨?_, hw.nil⟩)
          refine hd _ ?_;first | exact ⟨fun ⟨⟨a1, a2⟩, a3, a4, a5, a6, a7, a8, a9⟩ => (by first | omega | (unfold tkOf at a5; omega) | exact absurd (h6.symm.trans a6) (by decide) | exact absurd (h7.symm.trans a7) (by decide) | exact absurd (h8.symm.trans a8) (by decide)), fun a => by cases a⟩ | exact ⟨fun a => a.2.2.2.2.2.2.2, fun a => ⟨⟨by omega, by omega⟩, by omega, by omega, by unfold tkOf; omega, h6, h7, h8, a⟩⟩
        · have hk : x.tk.toNat < l.length := (by omega)
          refine Zg rfl fo_210_2 rfl ag_3 rfl ?_;refine Zr 2 rfl ?_;refine Zf rfl fo_264_0 ?_;refine ZL rfl ag_208 (.old (hg.cell rfl) (noM _)) ?_;refine Zg rfl fo_210_0 rfl ag_3 rfl ?_;refine GT_S rfl (V_index rfl rfl rfl Tryz.underlying208 sz_207 (k := x.tk.toNat) (by omega) hk (h.1.isSome hk)) ?_;refine GT_S rfl (V_fieldA rfl rfl fo_207_1) ?_;refine ZL rfl ag_199 (h.1.at1 noM hk rfl) ?_;refine Zn rfl Tryz.underlying199 ?_;refine GT_S rfl (V_gtr rfl rfl rfl) ?_;refine Zv rfl ?_;refine GT_nil ?_;refine GE_cond rfl (fun h5 => ?_) (fun h5 => ?_)
          · refine Zq [] 1 [] rfl rfl ?_;refine Zv rfl ?_;refine GT_nil ?_;refine GE_ret Tryz.func141 rfl (fun w hw => ⟨?_, hw.nil⟩)
            refine hd _ ?_;first | exact ⟨fun ⟨⟨a1, a2⟩, a3, a4, a5, a6, a7, a8, a9⟩ => (by first | omega | (unfold tkOf at a5; omega) | exact absurd (h6.symm.trans a6) (by decide) | exact absurd (h7.symm.trans a7) (by decide) | exact absurd (h8.symm.trans a8) (by decide)), fun a => by cases a⟩ | exact ⟨fun a => a.2.2.2.2.2.2.2, fun a => ⟨⟨by omega, by omega⟩, by omega, by omega, by unfold tkOf; omega, h6, h7, h8, a⟩⟩
          · refine GE_skip ?_;refine Zq [3] 19 [2, 6, 11, 16] rfl rfl ?_;refine Zg rfl fo_210_3 rfl ag_3 rfl ?_;refine Zc rfl rn_144 (fun w hw => C_between) GR_nil ?_;refine Zv rfl ?_;refine GT_splitB (d := 48) rfl (fun h6 => ?_) (fun h6 => ?_)
            · refine Zg rfl fo_210_4 rfl ag_3 rfl ?_;refine Zc rfl rn_144 (fun w hw => C_between) GR_nil ?_;refine Zr 2 rfl ?_;refine GT_splitB (d := 53) rfl (fun h7 => ?_) (fun h7 => ?_)
              · refine Zg rfl fo_210_5 rfl ag_3 rfl ?_;refine Zc rfl rn_144 (fun w hw => C_between) GR_nil ?_;refine Zr 2 rfl ?_;refine GT_splitB (d := 58) rfl (fun h8 => ?_) (fun h8 => ?_)
                · refine Zg rfl fo_210_6 rfl ag_2 rfl ?_;refine Zc rfl rn_144 (fun w hw => C_between) GR_nil ?_;refine Zr 2 rfl ?_;refine GT_nil ?_;refine GE_ret Tryz.func141 rfl (fun w hw => ⟨?_, hw.nil⟩)
                  refine hd _ ?_;first | exact ⟨fun ⟨⟨a1, a2⟩, a3, a4, a5, a6, a7, a8, a9⟩ => (by first | omega | (unfold tkOf at a5; omega) | exact absurd (h6.symm.trans a6) (by decide) | exact absurd (h7.symm.trans a7) (by decide) | exact absurd (h8.symm.trans a8) (by decide)), fun a => by cases a⟩ | exact ⟨fun a => a.2.2.2.2.2.2.2, fun a => ⟨⟨by omega, by omega⟩, by omega, by omega, by unfold tkOf; omega, h6, h7, h8, a⟩⟩
                · refine Zr 2 rfl ?_;refine GT_skip_ld rfl rfl rfl rfl rfl (by decide) rfl rfl rfl GR_nil ?_;refine Zr 2 rfl ?_;refine GT_nil ?_;refine GE_ret Tryz.func141 rfl (fun w hw => ⟨?_, hw.nil⟩)
                  refine hd _ ?_;first | exact ⟨fun ⟨⟨a1, a2⟩, a3, a4, a5, a6, a7, a8, a9⟩ => (by first | omega | (unfold tkOf at a5; omega) | exact absurd (h6.symm.trans a6) (by decide) | exact absurd (h7.symm.trans a7) (by decide) | exact absurd (h8.symm.trans a8) (by decide)), fun a => by cases a⟩ | exact ⟨fun a => a.2.2.2.2.2.2.2, fun a => ⟨⟨by omega, by omega⟩, by omega, by omega, by unfold tkOf; omega, h6, h7, h8, a⟩⟩
              · refine Zr 2 rfl ?_;refine GT_skip_ld rfl rfl rfl rfl rfl (by decide) rfl rfl rfl GR_nil ?_;refine Zr 4 rfl ?_;refine GT_skip_ld rfl rfl rfl rfl rfl (by decide) rfl rfl rfl GR_nil ?_;refine Zr 2 rfl ?_;refine GT_nil ?_;refine GE_ret Tryz.func141 rfl (fun w hw => ⟨?_, hw.nil⟩)
                refine hd _ ?_;first | exact ⟨fun ⟨⟨a1, a2⟩, a3, a4, a5, a6, a7, a8, a9⟩ => (by first | omega | (unfold tkOf at a5; omega) | exact absurd (h6.symm.trans a6) (by decide) | exact absurd (h7.symm.trans a7) (by decide) | exact absurd (h8.symm.trans a8) (by decide)), fun a => by cases a⟩ | exact ⟨fun a => a.2.2.2.2.2.2.2, fun a => ⟨⟨by omega, by omega⟩, by omega, by omega, by unfold tkOf; omega, h6, h7, h8, a⟩⟩
            · refine Zr 2 rfl ?_;refine GT_skip_ld rfl rfl rfl rfl rfl (by decide) rfl rfl rfl GR_nil ?_;refine Zr 4 rfl ?_;refine GT_skip_ld rfl rfl rfl rfl rfl (by decide) rfl rfl rfl GR_nil ?_;refine Zr 4 rfl ?_;refine GT_skip_ld rfl rfl rfl rfl rfl (by decide) rfl rfl rfl GR_nil ?_;refine Zr 2 rfl ?_;refine GT_nil ?_;refine GE_ret Tryz.func141 rfl (fun w hw => ⟨?_, hw.nil⟩)
              refine hd _ ?_;first | exact ⟨fun ⟨⟨a1, a2⟩, a3, a4, a5, a6, a7, a8, a9⟩ => (by first | omega | (unfold tkOf at a5; omega) | exact absurd (h6.symm.trans a6) (by decide) | exact absurd (h7.symm.trans a7) (by decide) | exact absurd (h8.symm.trans a8) (by decide)), fun a => by cases a⟩ | exact ⟨fun a => a.2.2.2.2.2.2.2, fun a => ⟨⟨by omega, by omega⟩, by omega, by omega, by unfold tkOf; omega, h6, h7, h8, a⟩⟩
theorem fin_bd {l : List Tk} {p : List Prt} (hl : TksOk l) : ∀ k, k ≤ p.length → (∀ i, i < k → goodP l (pt p i) = true) → -8192 * (k : Int) ≤ fin (p.take k) ∧ fin (p.take k) ≤ 8192 * k := by
  intro k
  induction k with
  | zero => intro _ _; rw [List.take_zero]; exact ⟨by simp [fin], by simp [fin]⟩
  | succ k ih =>
    intro hk hg
    have h1 := ih (by omega) (fun i hi => hg i (by omega))
    have h2 := goodP_iff.1 (hg k (by omega))
    have h3 := h2.frto
    have h4 := h2.fr0
    have h5 := h2.to1
    have h6 := h2.gap
    have h7 : (tkOf l (pt p k)).data.length ≤ 4096 := by
      have a := h2.tk0; have b := h2.tk1
      exact (tErr_zero.1 (hl.each _ (getD_mem (i := (pt p k).tk.toNat) (by omega)))).1
    rw [fin_take (by omega)]
    unfold en bgn lng
    omega
def NewR (l : List Tk) (p : List Prt) (A : Option Addr) (c : Nat) (w : World) (v : Value) (w' : World) : Prop :=
  (gErr l p = 0 ∧ ∃ (b : Nat) (A' : Option Addr) (c' : Nat) (I' : Items), Own 10 266 ePlc (plcs p p.length) (.slice A' p.length c') I' ∧ v = .tuple #[ptr b 0, I 0] ∧ SH w none' ((b, blk [.slice A l.length c, .slice A' p.length c', I (fin p)] 264) :: I') w') ∨
  (gErr l p ≠ 0 ∧ v = .tuple #[.pointer none, I (gErr l p)] ∧ SH w none' [] w')
set_option maxRecDepth 10000 in
set_option maxHeartbeats 2000000 in
theorem C_new {l : List Tk} {p : List Prt} (h : Tks w A l) (hp : RdL w 7 ePrt A2 p) : Ret Tryz.prog 119 #[.slice A l.length c, .slice A2 p.length c2] w (NewR l p A c w) := by
  refine Ret_of (vs := [_, _]) hm none' Tryz.func119 rfl Tryz.ntmps119 rfl ?_
  dsimp only [slotsOf]
  refine Zp 2 [] rfl ?_;refine Zr 2 rfl ?_;refine Zz ?_;refine Zp 3 [1] rfl ?_;refine Zv rfl ?_;refine Zc rfl rn_140 (fun w hw => C_CheckTakes (h.sh hw)) GR_nil ?_;refine Zv rfl ?_;refine GT_nil ?_;refine Zq [0, 1, 6] 2 [] rfl rfl ?_;refine Zv rfl ?_;refine GT_S rfl (V_neq rfl rfl rfl) ?_;refine GT_nil ?_;refine GE_condNot rfl (fun h1 => ?_) (fun h1 => ?_)
  · refine Zq [6] 3 [] rfl rfl ?_;refine Zr 3 rfl ?_;refine GT_nil ?_;refine GE_ret Tryz.func119 ⟨_, _, rfl, rfl, rfl⟩ (fun w hw => ?_)
    exact .inr ⟨by rw [gErr, if_neg h1]; exact h1, by rw [gErr, if_neg h1], hw.nil⟩
  · have hl := lErr_zero.1 h1
    refine GE_skip ?_;refine GE_seq ?_;refine Zp 3 [] rfl ?_;refine Zv rfl ?_;refine Zn rfl Tryz.underlying211 ?_;refine GT_S rfl (V_gtr rfl rfl rfl) ?_;refine GT_nil ?_;refine GE_cond rfl (fun h2 => ?_) (fun h2 => ?_)
    · refine Zq [] 2 [] rfl rfl ?_;refine Zr 2 rfl ?_;refine GT_nil ?_;refine GE_ret Tryz.func119 ⟨_, _, rfl, rfl, rfl⟩ (fun w hw => ?_)
      have e : gErr l p = 6 := (by rw [gErr, if_pos h1, if_pos (by omega)]); exact .inr ⟨by omega, by rw [e], hw.nil⟩
    · have hp32 : p.length ≤ 32 := (by omega)
      refine GE_skip ?_;refine Zq [0, 1] 4 [2] rfl rfl ?_;refine Zv rfl ?_;refine GT_S rfl (V_build (vs := [_, _, _]) rfl rfl zc_264 pl_264 sa_264 rfl) ?_;refine Zx [_, _, _] rfl rfl fun b24 => ?_;refine Zv rfl ?_;refine Zz ?_;refine Zq [1, 7] 3 [] rfl rfl ?_;refine Zv rfl ?_;refine Zn rfl Tryz.underlying211 ?_;refine Zv rfl ?_;refine GT_nil ?_;refine GE_block ?_;refine GE_to (GE_loop (ι := Nat × Option Addr × Nat × Items) (fun x => p.length - x.1) (fun x => [(7, ptr b24 0), (25, .slice A2 p.length c2), (26, I p.length), (27, I x.1)]) (fun x => (b24, blk [.slice A l.length c, .slice x.2.1 x.1 x.2.2.1, I (fin (p.take x.1))] 264) :: x.2.2.2) (fun x => x.1 ≤ p.length ∧ (∀ i, i < x.1 → goodP l (pt p i) = true) ∧ Own 10 266 ePlc (plcs p x.1) (.slice x.2.1 x.1 x.2.2.1) x.2.2.2) ?_ (0, none, 0, []) ?_) ⟨rfl, rfl, rfl, rfl, trivial⟩ (HS.cons rfl HS.nil)
      · rintro ⟨k, A', c', I'⟩ ⟨hk, hgd, hO⟩ ih; dsimp only at hk hgd hO ih ⊢; have hfb := fin_bd hl k hk hgd
        refine Zp 1 [] rfl ?_;refine GT_S rfl (V_lss rfl rfl rfl) ?_;refine Zz ?_;refine GE_cond rfl (fun h3 => ?_) (fun h3 => ?_)
        · have hkl : k < p.length := (by omega)
          refine GE_skip ?_;refine GE_seq ?_;refine GE_block ?_;refine Zp 6 [3, 5] rfl ?_;refine Zv rfl ?_;refine GT_S rfl (V_index rfl rfl rfl Tryz.underlying211 sz_210 (k := k) rfl hkl (hp.isSome hkl)) ?_;refine GT_S rfl (V_loadN (vs := [_, _, _, _, _, _, _]) rfl rfl ag_210 sz_210 rfl (show CellsAt _ _ _ (ePrt (pt p k)) from hp.ats noM hkl)) ?_;refine Zb rfl zc_210 fun b9 => ?_;refine Zv rfl ?_;refine ZS [_, _, _, _, _, _, _] [_, _, _, _, _, _, _] rfl rfl sz_210 rfl rfl rfl ?_;refine Zz ?_;refine Zq [7, 8, 9, 25, 26, 27] 4 [2] rfl rfl ?_;refine Zv rfl ?_;refine ZN [_, _, _, _, _, _, _] rfl ag_210 sz_210 rfl rfl ?_;refine Zc rfl rn_141 (fun w hw => C_good (x := pt p k) (h.sh hw) (BlkAt.of hw)) GR_nil ?_;refine GT_S rfl (V_notB rfl rfl) ?_;refine GT_nil ?_;refine GE_condNotB rfl (fun h4 => ?_) (fun h4 => ?_)
          · refine Zq [] 2 [] rfl rfl ?_;refine Zr 2 rfl ?_;refine GT_nil ?_;refine GE_ret Tryz.func119 ⟨_, _, rfl, rfl, rfl⟩ (fun w hw => ?_)
            have e : gErr l p = 2 := (by rw [gErr, if_pos h1, if_neg (by omega), if_neg (by rw [all_split hkl h4]; decide)]); exact .inr ⟨by omega, by rw [e], hw.nil⟩
          · have hgk := goodP_iff.1 h4; have hfk := fin_bd hl (k + 1) hkl (fun i hi => by rcases Nat.lt_or_ge i k with r | r; exact hgd i r; rw [show i = k by omega]; exact h4); rw [fin_take hkl] at hfk; have hlk : en p k = bgn p k + lng (pt p k) := rfl; have hbk : bgn p k = fin (p.take k) + (pt p k).gap := rfl; have hnk : lng (pt p k) = (pt p k).to - (pt p k).fr := rfl; have hga := hgk.gap; have hfr0 := hgk.fr0; have hfrt := hgk.frto; have hto : (pt p k).to ≤ 4096 := (by have a := hgk.tk0; have b := hgk.tk1; have d := (tErr_zero.1 (hl.each _ (getD_mem (i := (pt p k).tk.toNat) (by omega)))).1; have e := hgk.to1; unfold tkOf at e; omega)
            refine GE_skip ?_;refine GE_seq ?_;refine Zs [7, 8, 9, 25, 26, 27] rfl ?_;refine GE_drawn (.st 0 (.st 1 (.st 2 (.st 3 (.st 4 (.st 5 (.st 6 (.st 7 (.st 8 (.st 9 (.ld 10 [0, 1, 2, 3, 4, 5, 6, 7, 8, 9] (.ld 11 [] .nil)))))))))))) [10, 11] (by decide +kernel) ?_;refine ZN [_, _, _, _, _, _, _] rfl ag_210 sz_210 rfl rfl ?_;refine Zr 3 rfl ?_;refine Zg rfl fo_264_2 rfl ag_3 rfl ?_;refine Zg rfl fo_210_3 rfl ag_3 rfl ?_;refine GT_S rfl (V_add rfl rfl rfl ((wrap_i64 (by omega)).trans (show _ = bgn p k from rfl))) ?_;refine GT_S rfl (V_build (vs := [_, _, _, _, _, _, _, _, _, _]) rfl rfl zc_266 pl_266 sa_266 rfl) ?_;refine GT_alloc rfl rfl rfl rfl rfl zc_266 (fun _ => GR_S rfl rfl (V_loadN (vs := [_, _, _, _, _, _, _]) rfl rfl ag_210 sz_210 rfl (CellsAt.item rfl)) (Rv rfl rfl (Rv rfl rfl (Rv rfl rfl (Rf rfl fo_264_2 rfl (Rl rfl ag_3 rfl rfl (Rf rfl fo_210_3 rfl (Rl rfl ag_3 rfl rfl (GR_S rfl rfl (V_add rfl rfl rfl ((wrap_i64 (by omega)).trans (show _ = bgn p k from rfl))) (GR_S rfl rfl (V_build (vs := [_, _, _, _, _, _, _, _, _, _]) rfl rfl zc_266 pl_266 sa_266 rfl) GR_nil)))))))))) (fun b10 => ?_);refine ZS [_, _, _, _, _, _, _, _, _, _] [_, _, _, _, _, _, _, _, _, _] rfl rfl sz_266 rfl rfl rfl ?_;refine GT_nil ?_;refine Zq [7, 9, 10, 25, 26, 27] 10 [9] rfl rfl ?_;refine Zg rfl fo_266_2 rfl ag_3 rfl ?_;refine Zg rfl fo_210_2 rfl ag_3 rfl ?_;refine Za rfl (by omega) ?_;refine Zg rfl fo_210_1 rfl ag_3 rfl ?_;refine GT_S rfl (V_sub rfl rfl rfl ((wrap_i64 (by omega)).trans (show bgn p k + (pt p k).to - (pt p k).fr = en p k by omega))) ?_;refine Zf rfl fo_266_3 ?_;refine ZS [_] [_, _, _, _, _, _, _, _, _, _] rfl rfl sz_3 rfl rfl rfl ?_;refine Zz ?_;refine Zs [7, 10, 25, 26, 27] rfl ?_;refine GE_drawn (.st 0 (.st 1 (.st 2 (.st 3 (.st 4 (.st 5 (.ld 6 [0, 1, 2, 3, 4] (.ld 7 [0] (.st 8 (.st 9 (.ld 10 [] .nil))))))))))) [6, 7, 10] (by decide +kernel) ?_;refine Zr 3 rfl ?_;refine Zg rfl fo_264_1 rfl ag_262 rfl ?_;refine ZN [_, _, _, _, _, _, _, _, _, _] rfl ag_266 sz_266 rfl rfl ?_;refine GT_buildSlice (z := [_, _, _, _, _, _, _, _, _, _]) rfl rfl rfl rfl rfl Tryz.underlying262 zc_266 sz_266 (by decide) rfl rfl (fun _ => Rv rfl rfl (Rv rfl rfl (Rv rfl rfl (Rf rfl fo_264_1 rfl (Rl rfl ag_262 rfl rfl GR_nil))))) (fun b61 => ?_);refine GT_append (enc := ePlc) (m := [plc p k]) rfl rfl rfl rfl rfl rfl rfl hO (fun w m => RdL.own' m ePlc_len) Tryz.underlying262 zc_266 sz_266 ⟨rfl, by decide⟩ by_266 ⟨by rw [plcs_len]; simp only [List.length_singleton]; omega, by rw [plcs_len]; simp only [List.length_singleton]; omega⟩ ePlc_len ePlc_one (fun _ _ _ _ => Rv rfl rfl GR_nil) (fun A2' c2' I2' hO2 => ?_)
            rw [← plcs_succ, plcs_len] at hO2 ⊢
            refine Zv rfl ?_;refine Zf rfl fo_264_1 ?_;refine ZS [_] [_, _, _] rfl rfl sz_262 rfl rfl rfl ?_;refine GT_nil ?_;refine Zs [7, 10, 25, 26, 27] rfl ?_;refine ZP 6 [5] rfl ?_;refine Zv rfl ?_;refine Zg rfl fo_266_3 rfl ag_3 rfl ?_;refine Zv rfl ?_;refine Zf rfl fo_264_2 ?_;refine ZS [_] [_, _, _] rfl rfl sz_3 rfl rfl rfl ?_;refine GT_nil ?_;refine GE_inBlock ?_;refine Zs [7, 25, 26, 27] rfl ?_;refine ZP 2 [1] rfl ?_;refine Za rfl (by omega) ?_;refine Zw rfl ?_;refine GT_nil ?_
            exact GE_to (ih (k + 1, A2', c2', I2') ⟨by dsimp only; omega, fun i hi => by rcases Nat.lt_or_ge i k with r | r; exact hgd i r; rw [show i = k by dsimp only at hi; omega]; exact h4, hO2⟩ (by dsimp only; omega)) ⟨rfl, rfl, rfl, rfl, trivial⟩ (HS.cons (by rw [fin_take hkl]) HS.last)
        · obtain rfl : k = p.length := (by omega); rw [fin_all]; have hall := all_getD.2 hgd
          refine GE_exit rfl ?_;refine Zq [7] 1 [] rfl rfl ?_;refine Zv rfl ?_;refine Zz ?_;refine Zp 6 [] rfl ?_;refine Zr 2 rfl ?_;refine Zg rfl fo_264_1 rfl ag_262 rfl ?_;refine Zn rfl Tryz.underlying262 ?_;refine Zv rfl ?_;refine GT_nil ?_;refine GE_block ?_;refine GE_to (GE_loop (ι := Nat × Int) (fun x => p.length - x.1) (fun x => [(7, ptr b24 0), (11, I x.2), (74, .slice A' p.length c'), (75, I p.length), (76, I x.1)]) (fun x => (b24, blk [.slice A l.length c, .slice A' p.length c', I (fin p)] 264) :: I') (fun x => x.1 ≤ p.length ∧ (∀ i, i < x.1 → posOk p i) ∧ (x.1 ≤ 1 → x.2 = 0) ∧ (1 < x.1 → x.2 = en p (x.1 - 2))) ?_ (0, 0) ?_) ⟨rfl, rfl, rfl, rfl, rfl, trivial⟩ HS.all
          · rintro ⟨j, fr⟩ ⟨hj, hps, hf1, hf2⟩ ih2; dsimp only at hj hps hf1 hf2 ih2 ⊢; have hnn := bgn_nn hps
            refine Zp 1 [] rfl ?_;refine GT_S rfl (V_lss rfl rfl rfl) ?_;refine Zz ?_;refine GE_cond rfl (fun h5 => ?_) (fun h5 => ?_)
            · have hjl : j < p.length := (by omega)
              refine GE_skip ?_;refine GE_seq ?_;refine GE_block ?_;refine Zp 6 [3, 5] rfl ?_;refine Zv rfl ?_;refine GT_S rfl (V_index rfl rfl rfl Tryz.underlying262 sz_266 (k := j) rfl hjl (hO.isSome (k := j) (by rw [plcs_len]; exact hjl))) ?_;refine GT_S rfl (V_loadN (vs := [_, _, _, _, _, _, _, _, _, _]) rfl rfl ag_266 sz_266 rfl (CellsAt.ownE hO ePlc_len (by rw [plcs_len]; exact hjl) (by rw [plcs_get hjl, ePlc_plc]))) ?_;refine Zb rfl zc_266 fun b13 => ?_;refine Zv rfl ?_;refine ZS [_, _, _, _, _, _, _, _, _, _] [_, _, _, _, _, _, _, _, _, _] rfl rfl sz_266 rfl rfl rfl ?_;refine Zz ?_;refine GE_seq ?_;refine Zs [7, 11, 12, 13, 74, 75, 76] rfl ?_;refine GE_drawn (.st 0 (.st 1 (.st 2 (.st 3 (.st 4 (.st 5 (.st 6 (.st 7 (.st 8 (.st 9 (.st 10 (.st 11 (.st 12 (.st 13 (.st 14 (.st 15 (.st 16 (.st 17 (.st 18 (.st 19 (.st 20 (.st 21 (.st 22 (.st 23 (.st 24 (.st 25 (.st 26 (.st 27 (.st 28 (.st 29 (.st 30 (.st 31 (.st 32 (.st 33 (.st 34 (.st 35 .nil)))))))))))))))))))))))))))))))))))) [] (by decide +kernel) ?_;refine Zv rfl ?_;refine GT_S rfl (V_gtr rfl rfl rfl) ?_;refine Zv rfl ?_;refine GT_split (d := 83) rfl (fun h6 => ?_) (fun h6 => ?_)
              · have hn1 := hnn (j - 1) (by omega)
                refine Zg rfl fo_266_3 rfl ag_3 rfl ?_;refine Zr 2 rfl ?_;refine Zg rfl fo_264_1 rfl ag_262 rfl ?_;refine Zv rfl ?_;refine Za rfl (by omega) ?_;refine GT_S rfl (V_index rfl rfl rfl Tryz.underlying262 sz_266 (k := j - 1) (by omega) (by omega) (hO.isSome (k := j) (by rw [plcs_len]; exact hjl))) ?_;refine GT_S rfl (V_fieldA rfl rfl fo_266_3) ?_;refine ZL rfl ag_3 (CellAt.own (k := j - 1) hO ePlc_len (by rw [plcs_len]; omega) (by rw [plcs_get (by omega)]; exact (show (ePlc (plc p (j - 1)))[9]? = some (I (en p (j - 1))) from rfl))) ?_;refine GT_S rfl (V_lss rfl rfl rfl) ?_;refine Zv rfl ?_;refine GT_split (d := 96) rfl (fun h7 => ?_) (fun h7 => ?_)
                · refine Zr 20 rfl ?_;refine GT_nil ?_;refine GE_cond_t rfl ?_;refine Zq [] 2 [] rfl rfl ?_;refine Zr 2 rfl ?_;refine GT_nil ?_;refine GE_ret Tryz.func119 ⟨_, _, rfl, rfl, rfl⟩ (fun w hw => ?_)
                  first | exact .inl ⟨gErr_zero.2 ⟨hl, by omega, fun i hi => goodP_iff.1 (hgd i hi), hps, by omega⟩, b24, A', c', I', hO, rfl, hw⟩ | (have e : gErr l p = 15 := (by rw [gErr, if_pos h1, if_neg (by omega), if_pos hall, if_neg (fun hP => by have := hP.1 j hjl; unfold posOk at this; omega)]); exact .inr ⟨by omega, by rw [e], hw.nil⟩)
                · refine Zg rfl fo_266_2 rfl ag_3 rfl ?_;refine Zr 2 rfl ?_;refine Zg rfl fo_264_1 rfl ag_262 rfl ?_;refine Zv rfl ?_;refine Za rfl (by omega) ?_;refine GT_S rfl (V_index rfl rfl rfl Tryz.underlying262 sz_266 (k := j - 1) (by omega) (by omega) (hO.isSome (k := j) (by rw [plcs_len]; exact hjl))) ?_;refine GT_S rfl (V_fieldA rfl rfl fo_266_2) ?_;refine ZL rfl ag_3 (CellAt.own (k := j - 1) hO ePlc_len (by rw [plcs_len]; omega) (by rw [plcs_get (by omega)]; exact (show (ePlc (plc p (j - 1)))[8]? = some (I (bgn p (j - 1))) from rfl))) ?_;refine GT_S rfl (V_lss rfl rfl rfl) ?_;refine Zr 3 rfl ?_;refine GT_split (d := 111) rfl (fun h8 => ?_) (fun h8 => ?_)
                  · refine Zr 5 rfl ?_;refine GT_nil ?_;refine GE_cond_t rfl ?_;refine Zq [] 2 [] rfl rfl ?_;refine Zr 2 rfl ?_;refine GT_nil ?_;refine GE_ret Tryz.func119 ⟨_, _, rfl, rfl, rfl⟩ (fun w hw => ?_)
                    first | exact .inl ⟨gErr_zero.2 ⟨hl, by omega, fun i hi => goodP_iff.1 (hgd i hi), hps, by omega⟩, b24, A', c', I', hO, rfl, hw⟩ | (have e : gErr l p = 15 := (by rw [gErr, if_pos h1, if_neg (by omega), if_pos hall, if_neg (fun hP => by have := hP.1 j hjl; unfold posOk at this; omega)]); exact .inr ⟨by omega, by rw [e], hw.nil⟩)
                  · refine Zg rfl fo_266_2 rfl ag_3 rfl ?_;refine Zv rfl ?_;refine GT_S rfl (V_lss rfl rfl rfl) ?_;refine Zv rfl ?_;refine GT_nil ?_;refine GE_cond rfl (fun h9 => ?_) (fun h9 => ?_)
                    · refine Zq [] 2 [] rfl rfl ?_;refine Zr 2 rfl ?_;refine GT_nil ?_;refine GE_ret Tryz.func119 ⟨_, _, rfl, rfl, rfl⟩ (fun w hw => ?_)
                      have e : gErr l p = 15 := (by rw [gErr, if_pos h1, if_neg (by omega), if_pos hall, if_neg (fun hP => by have := hP.1 j hjl; unfold posOk at this; omega)]); exact .inr ⟨by omega, by rw [e], hw.nil⟩
                    · have hok : posOk p j := (by unfold posOk; omega)
                      refine GE_skip ?_;refine Zq [7, 11, 12, 74, 75, 76, 84, 85, 86, 87, 88, 89, 90, 91, 92, 93, 94, 95, 96, 97, 98, 99, 100, 101, 102, 103, 104, 105, 106, 107, 108, 109, 112, 113, 114, 115] 2 [] rfl rfl ?_;refine Zv rfl ?_;refine GT_S rfl (V_gtr rfl rfl rfl) ?_;refine GT_nil ?_;refine GE_cond rfl (fun h10 => ?_) (fun h10 => ?_)
                      · refine ZP 10 [] rfl ?_;refine Zr 2 rfl ?_;refine Zg rfl fo_264_1 rfl ag_262 rfl ?_;refine Zv rfl ?_;refine Za rfl (by omega) ?_;refine GT_S rfl (V_index rfl rfl rfl Tryz.underlying262 sz_266 (k := j - 1) (by omega) (by omega) (hO.isSome (k := j) (by rw [plcs_len]; exact hjl))) ?_;refine GT_S rfl (V_fieldA rfl rfl fo_266_3) ?_;refine ZL rfl ag_3 (CellAt.own (k := j - 1) hO ePlc_len (by rw [plcs_len]; omega) (by rw [plcs_get (by omega)]; exact (show (ePlc (plc p (j - 1)))[9]? = some (I (en p (j - 1))) from rfl))) ?_;refine Zv rfl ?_;refine GT_nil ?_;refine GE_inBlock ?_;refine Zs [7, 11, 74, 75, 76, 84, 85, 86, 87, 88, 89, 90, 91, 92, 93, 94, 95, 96, 97, 98, 99, 100, 101, 102, 103, 104, 105, 106, 107, 108, 109, 112, 113, 114, 115] rfl ?_;refine ZP 2 [1] rfl ?_;refine Za rfl (by omega) ?_;refine Zw rfl ?_;refine GT_nil ?_
                        first
                          | exact GE_to (ih2 (j + 1, en p (j - 1)) ⟨by dsimp only; omega, fun i hi => by rcases Nat.lt_or_ge i j with r | r; exact hps i r; rw [show i = j by dsimp only at hi; omega]; exact hok, fun q => by dsimp only at q; omega, fun _ => by dsimp only; rw [show j + 1 - 2 = j - 1 by omega]⟩ (by dsimp only; omega)) ⟨rfl, rfl, rfl, rfl, rfl, trivial⟩ (HS.cons rfl HS.last)
                          | exact GE_to (ih2 (j + 1, fr) ⟨by dsimp only; omega, fun i hi => by rcases Nat.lt_or_ge i j with r | r; exact hps i r; rw [show i = j by dsimp only at hi; omega]; exact hok, fun q => hf1 (by omega), fun q => by dsimp only at q; omega⟩ (by dsimp only; omega)) ⟨rfl, rfl, rfl, rfl, rfl, trivial⟩ (HS.cons rfl HS.last)
                      · refine GE_skip ?_;refine GE_inBlock ?_;refine ZP 2 [1] rfl ?_;refine Za rfl (by omega) ?_;refine Zw rfl ?_;refine GT_nil ?_
                        first
                          | exact GE_to (ih2 (j + 1, en p (j - 1)) ⟨by dsimp only; omega, fun i hi => by rcases Nat.lt_or_ge i j with r | r; exact hps i r; rw [show i = j by dsimp only at hi; omega]; exact hok, fun q => by dsimp only at q; omega, fun _ => by dsimp only; rw [show j + 1 - 2 = j - 1 by omega]⟩ (by dsimp only; omega)) ⟨rfl, rfl, rfl, rfl, rfl, trivial⟩ (HS.cons rfl HS.last)
                          | exact GE_to (ih2 (j + 1, fr) ⟨by dsimp only; omega, fun i hi => by rcases Nat.lt_or_ge i j with r | r; exact hps i r; rw [show i = j by dsimp only at hi; omega]; exact hok, fun q => hf1 (by omega), fun q => by dsimp only at q; omega⟩ (by dsimp only; omega)) ⟨rfl, rfl, rfl, rfl, rfl, trivial⟩ (HS.cons rfl HS.last)
              · refine Zr 28 rfl ?_;refine Zg rfl fo_266_2 rfl ag_3 rfl ?_;refine Zv rfl ?_;refine GT_S rfl (V_lss rfl rfl rfl) ?_;refine Zv rfl ?_;refine GT_nil ?_;refine GE_cond rfl (fun h9 => ?_) (fun h9 => ?_)
                · refine Zq [] 2 [] rfl rfl ?_;refine Zr 2 rfl ?_;refine GT_nil ?_;refine GE_ret Tryz.func119 ⟨_, _, rfl, rfl, rfl⟩ (fun w hw => ?_)
                  have e : gErr l p = 15 := (by rw [gErr, if_pos h1, if_neg (by omega), if_pos hall, if_neg (fun hP => by have := hP.1 j hjl; unfold posOk at this; omega)]); exact .inr ⟨by omega, by rw [e], hw.nil⟩
                · have hok : posOk p j := (by unfold posOk; omega)
                  refine GE_skip ?_;refine Zq [7, 11, 12, 74, 75, 76, 84, 85, 86, 87, 88, 89, 90, 91, 92, 93, 94, 95, 96, 97, 98, 99, 100, 101, 102, 103, 104, 105, 106, 107, 108, 109, 112, 113, 114, 115] 2 [] rfl rfl ?_;refine Zv rfl ?_;refine GT_S rfl (V_gtr rfl rfl rfl) ?_;refine GT_nil ?_;refine GE_cond rfl (fun h10 => ?_) (fun h10 => ?_)
                  · refine ZP 10 [] rfl ?_;refine Zr 2 rfl ?_;refine Zg rfl fo_264_1 rfl ag_262 rfl ?_;refine Zv rfl ?_;refine Za rfl (by omega) ?_;refine GT_S rfl (V_index rfl rfl rfl Tryz.underlying262 sz_266 (k := j - 1) (by omega) (by omega) (hO.isSome (k := j) (by rw [plcs_len]; exact hjl))) ?_;refine GT_S rfl (V_fieldA rfl rfl fo_266_3) ?_;refine ZL rfl ag_3 (CellAt.own (k := j - 1) hO ePlc_len (by rw [plcs_len]; omega) (by rw [plcs_get (by omega)]; exact (show (ePlc (plc p (j - 1)))[9]? = some (I (en p (j - 1))) from rfl))) ?_;refine Zv rfl ?_;refine GT_nil ?_;refine GE_inBlock ?_;refine Zs [7, 11, 74, 75, 76, 84, 85, 86, 87, 88, 89, 90, 91, 92, 93, 94, 95, 96, 97, 98, 99, 100, 101, 102, 103, 104, 105, 106, 107, 108, 109, 112, 113, 114, 115] rfl ?_;refine ZP 2 [1] rfl ?_;refine Za rfl (by omega) ?_;refine Zw rfl ?_;refine GT_nil ?_
                    first
                      | exact GE_to (ih2 (j + 1, en p (j - 1)) ⟨by dsimp only; omega, fun i hi => by rcases Nat.lt_or_ge i j with r | r; exact hps i r; rw [show i = j by dsimp only at hi; omega]; exact hok, fun q => by dsimp only at q; omega, fun _ => by dsimp only; rw [show j + 1 - 2 = j - 1 by omega]⟩ (by dsimp only; omega)) ⟨rfl, rfl, rfl, rfl, rfl, trivial⟩ (HS.cons rfl HS.last)
                      | exact GE_to (ih2 (j + 1, fr) ⟨by dsimp only; omega, fun i hi => by rcases Nat.lt_or_ge i j with r | r; exact hps i r; rw [show i = j by dsimp only at hi; omega]; exact hok, fun q => hf1 (by omega), fun q => by dsimp only at q; omega⟩ (by dsimp only; omega)) ⟨rfl, rfl, rfl, rfl, rfl, trivial⟩ (HS.cons rfl HS.last)
                  · refine GE_skip ?_;refine GE_inBlock ?_;refine ZP 2 [1] rfl ?_;refine Za rfl (by omega) ?_;refine Zw rfl ?_;refine GT_nil ?_
                    first
                      | exact GE_to (ih2 (j + 1, en p (j - 1)) ⟨by dsimp only; omega, fun i hi => by rcases Nat.lt_or_ge i j with r | r; exact hps i r; rw [show i = j by dsimp only at hi; omega]; exact hok, fun q => by dsimp only at q; omega, fun _ => by dsimp only; rw [show j + 1 - 2 = j - 1 by omega]⟩ (by dsimp only; omega)) ⟨rfl, rfl, rfl, rfl, rfl, trivial⟩ (HS.cons rfl HS.last)
                      | exact GE_to (ih2 (j + 1, fr) ⟨by dsimp only; omega, fun i hi => by rcases Nat.lt_or_ge i j with r | r; exact hps i r; rw [show i = j by dsimp only at hi; omega]; exact hok, fun q => hf1 (by omega), fun q => by dsimp only at q; omega⟩ (by dsimp only; omega)) ⟨rfl, rfl, rfl, rfl, rfl, trivial⟩ (HS.cons rfl HS.last)
            · obtain rfl : j = p.length := (by omega)
              refine GE_exit rfl ?_;refine GE_seq ?_;refine Zq [7] 5 [] rfl rfl ?_;refine Zr 2 rfl ?_;refine Zg rfl fo_264_2 rfl ag_3 rfl ?_;refine GT_S rfl (V_gtr rfl rfl rfl) ?_;refine GT_nil ?_;refine GE_cond rfl (fun h11 => ?_) (fun h11 => ?_)
              · refine Zq [] 2 [] rfl rfl ?_;refine Zr 2 rfl ?_;refine GT_nil ?_;refine GE_ret Tryz.func119 ⟨_, _, rfl, rfl, rfl⟩ (fun w hw => ?_)
                have e : gErr l p = 15 := (by rw [gErr, if_pos h1, if_neg (by omega), if_pos hall, if_neg (fun hP => by have := hP.2; omega)]); exact .inr ⟨by omega, by rw [e], hw.nil⟩
              · refine GE_skip ?_;refine Zq [7] 3 [] rfl rfl ?_;refine Zr 3 rfl ?_;refine GT_nil ?_;refine GE_ret Tryz.func119 ⟨_, _, rfl, rfl, rfl⟩ (fun w hw => ?_)
                first | exact .inl ⟨gErr_zero.2 ⟨hl, by omega, fun i hi => goodP_iff.1 (hgd i hi), hps, by omega⟩, b24, A', c', I', hO, rfl, hw⟩ | (have e : gErr l p = 15 := (by rw [gErr, if_pos h1, if_neg (by omega), if_pos hall, if_neg (fun hP => by have := hP.1 j hjl; unfold posOk at this; omega)]); exact .inr ⟨by omega, by rw [e], hw.nil⟩)
          · exact ⟨Nat.zero_le _, fun i hi => absurd hi (Nat.not_lt_zero _), fun _ => rfl, fun h => absurd h (by decide)⟩
      · exact ⟨Nat.zero_le _, fun i hi => absurd hi (Nat.not_lt_zero _), Own.nil⟩
end
end Go.Proofs.YtncleikbggjmjaaGreatDoor.Take
/- Sounds of samples, walked. -/
namespace Go.Proofs.YtncleikbggjmjaaGreatDoor.Take
open Go.Sx Go.Proofs Go.RowKit
section
variable {w : World} {A A2 : Option Addr} {c c2 : Nat} {l : List Tk} {p : List Prt}
theorem C_new_ok (h : Tks w A l) (hp : RdL w 7 ePrt A2 p) (hg : gErr l p = 0) : Con Tryz.prog 119 [.slice A l.length c, .slice A2 p.length c2] w (fun y : Nat × Option Addr × Nat × Items => Own 10 266 ePlc (plcs p p.length) (.slice y.2.1 p.length y.2.2.1) y.2.2.2)
    (fun y => .tuple #[ptr y.1 0, I 0]) (fun y => (y.1, blk [.slice A l.length c, .slice y.2.1 p.length y.2.2.1, I (fin p)] 264) :: y.2.2.2) :=
  (C_new h hp).mono fun v w' hr => by
    rcases hr with ⟨_, b, A', c', I', hO, e, hs⟩ | ⟨hn, _⟩
    · exact ⟨(b, A', c', I'), hO, e, hs⟩
    · exact absurd hg hn
theorem C_new_bad (h : Tks w A l) (hp : RdL w 7 ePrt A2 p) (hg : ¬ gErr l p = 0) : Con0 Tryz.prog 119 [.slice A l.length c, .slice A2 p.length c2] w (.tuple #[.pointer none, I (gErr l p)]) :=
  (C_new h hp).mono fun v w' hr => by
    rcases hr with ⟨hn, _⟩ | ⟨_, e, hs⟩
    · exact absurd hn hg
    · exact ⟨e, hs⟩
theorem C_sum {a b : Sam} (ha : a.bd 100000000) (hb : b.bd 100000000) : Con0 Tryz.prog 120 [.agg #[I a.l, I a.r], .agg #[I b.l, I b.r]] w (.agg #[I (sad a b).l, I (sad a b).r]) := by
  unfold Sam.bd at ha hb
  refine Ret_of (vs := [_, _]) hm none' Tryz.func120 rfl Tryz.ntmps120 rfl ?_
  dsimp only [slotsOf]
  refine Zp 3 [0, 1, 2] rfl ?_;refine Zx [_, _] rfl rfl fun b2 => ?_;refine Zx [_, _] rfl rfl fun b3 => ?_;refine Zb rfl zc_198 fun b4 => ?_;refine GT_nil ?_;refine Zp 12 [11] rfl ?_;refine Zg rfl fo_198_0 rfl ag_2 rfl ?_;refine Zg rfl fo_198_0 rfl ag_2 rfl ?_;refine Za rfl (by omega) ?_;refine Zg rfl fo_198_1 rfl ag_2 rfl ?_;refine Zg rfl fo_198_1 rfl ag_2 rfl ?_;refine Za rfl (by omega) ?_;refine GT_S rfl (V_build (vs := [_, _]) rfl rfl zc_198 pl_198 sa_198 rfl) ?_;refine ZS [_, _] [_, _] rfl rfl sz_198 rfl rfl rfl ?_;refine GT_nil ?_;refine GE_ret Tryz.func120 ⟨_, rfl, fun w m => run_loadVar_agg (vs := [_, _]) ag_198 sz_198 rfl (fun j v hj => CellsAt.item rfl j v hj w m)⟩ (fun w hw => ⟨?_, hw.nil⟩)
  rfl
theorem C_gain {i : Nat} (hi : i < p.length) (hg : ProgOk l p) {k lev : Int} (h0 : 0 ≤ k) (h1 : k < lng (pt p i)) (h2 : 0 ≤ lev) (h3 : lev ≤ 16000) :
    Con0 Tryz.prog 142 [.agg #[I (pt p i).tk, I (pt p i).fr, I (pt p i).to, I (pt p i).gap, I (pt p i).inn, I (pt p i).out, I (pt p i).lev, I i, I (bgn p i), I (en p i)], I k, I lev] w (.agg #[I (gnN (pt p i) k lev), I (gnD (pt p i))]) := by
  have ho := hg.each i hi
  have hu := up_bd ho h0
  have hd := dn_bd ho h1
  have hin := ho.inn
  have hout := ho.out
  have hD := gnD_pos ho
  have hb := bgn_mono hg i hi
  have he := en_fin hg hi
  have hf := hg.fin
  have hen : en p i = bgn p i + lng (pt p i) := rfl
  have m1 := mul_bd h2 h3 (b := up (pt p i) k) (B := 1001) (by omega) (by omega)
  have m2 := mul_bd m1.1 m1.2 (b := dn (pt p i) k) (B := 1001) (by omega) (by omega)
  refine Ret_of (vs := [_, _, _]) hm none' Tryz.func142 rfl Tryz.ntmps142 rfl ?_
  dsimp only [slotsOf]
  refine Zp 2 [0, 1] rfl ?_;refine Zx [_, _, _, _, _, _, _, _, _, _] rfl rfl fun b3 => ?_;refine Zb rfl zc_294 fun b6 => ?_;refine Zz ?_;refine GE_drawn (.st 0 (.st 1 (.st 2 (.st 3 (.st 4 (.st 5 (.st 6 (.st 7 (.st 8 (.st 9 (.st 10 (.st 11 (.st 12 (.st 13 (.st 14 (.st 15 (.st 16 (.st 17 (.st 18 (.st 19 (.st 20 .nil))))))))))))))))))))) [] (by decide +kernel) ?_;refine Zv rfl ?_;refine Zf rfl fo_266_0 ?_;refine Zg rfl fo_210_4 rfl ag_3 rfl ?_;refine GT_S rfl (V_min rfl rfl rfl) ?_;refine GT_S rfl (V_add rfl rfl rfl ((wrap_i64 (by omega)).trans (show _ = up (pt p i) k from rfl))) ?_;refine Zg rfl fo_266_3 rfl ag_3 rfl ?_;refine Zg rfl fo_266_2 rfl ag_3 rfl ?_;refine Za rfl (by omega) ?_;refine Zv rfl ?_;refine Za rfl (by omega) ?_;refine Za rfl (by omega) ?_;refine Zf rfl fo_266_0 ?_;refine Zg rfl fo_210_5 rfl ag_3 rfl ?_;refine GT_S rfl (V_min rfl rfl rfl) ?_;refine GT_S rfl (V_add rfl rfl rfl ((wrap_i64 (by omega)).trans (show _ = dn (pt p i) k by unfold dn; rw [hen]; omega))) ?_;refine Zr 2 rfl ?_;refine GT_nil ?_;refine Zq [2, 3, 6, 7, 8] 17 [16] rfl rfl ?_;refine Zr 2 rfl ?_;refine Za rfl (by omega) ?_;refine Zv rfl ?_;refine GT_S rfl (V_mul rfl rfl rfl ((wrap_i64 (by omega)).trans (show _ = gnN (pt p i) k lev from rfl))) ?_;refine Zf rfl fo_266_0 ?_;refine Zg rfl fo_210_4 rfl ag_3 rfl ?_;refine Za rfl (by omega) ?_;refine Za rfl (by omega) ?_;refine Zf rfl fo_266_0 ?_;refine Zg rfl fo_210_5 rfl ag_3 rfl ?_;refine Za rfl (by omega) ?_;refine GT_S rfl (V_mul rfl rfl rfl ((wrap_i64 (by unfold gnD at hD; omega)).trans (show _ = gnD (pt p i) from rfl))) ?_;refine GT_S rfl (V_build (vs := [_, _]) rfl rfl zc_294 pl_294 sa_294 rfl) ?_;refine ZS [_, _] [_, _] rfl rfl sz_294 rfl rfl rfl ?_;refine GT_nil ?_;refine GE_ret Tryz.func142 ⟨_, rfl, fun w m => run_loadVar_agg (vs := [_, _]) ag_294 sz_294 rfl (fun j v hj => CellsAt.item rfl j v hj w m)⟩ (fun w hw => ⟨?_, hw.nil⟩)
  rfl
theorem C_of {n d s : Int} (hd : 1 ≤ d) (h : amt (s * n) ≤ 9000000000000000000) : Con0 Tryz.prog 143 [.agg #[I n, I d], I s] w (I ((s * n).tdiv d)) := by
  have hq : amt ((s * n).tdiv d) ≤ amt (s * n) := by
    have := tdiv_bd (a := s * n) (d := d) (c := 1000 * amt (s * n)) (by omega) (by have := amt_nonneg (s * n); omega) (by
      have h0 := amt_nonneg (s * n)
      have := Int.mul_le_mul_of_nonneg_left hd (show 0 ≤ 1000 * amt (s * n) by omega)
      rw [Int.mul_one] at this
      exact this)
    omega
  unfold amt at h hq
  refine Ret_of (vs := [_, _]) hm none' Tryz.func143 rfl Tryz.ntmps143 rfl ?_
  dsimp only [slotsOf]
  refine Zp 2 [0] rfl ?_;refine Zx [_, _] rfl rfl fun b2 => ?_;refine Zv rfl ?_;refine GT_nil ?_;refine Zp 8 [] rfl ?_;refine Zv rfl ?_;refine Zg rfl fo_294_0 rfl ag_2 rfl ?_;refine Za rfl (by omega) ?_;refine Zg rfl fo_294_1 rfl ag_2 rfl ?_;refine GT_S rfl (V_quo rfl rfl rfl (by omega) (wrap_i64 (by omega))) ?_;refine Zv rfl ?_;refine GT_nil ?_;refine GE_ret Tryz.func143 rfl (fun w hw => ⟨?_, hw.nil⟩)
  rfl
theorem C_sound {i g : Nat} {X Y : Value} (hi : i < p.length) (hg : ProgOk l p) {k lev : Int} (h0 : 0 ≤ k) (h1 : k < lng (pt p i)) (h2 : 0 ≤ lev) (h3 : lev ≤ 16000) (h : Tks w A l) (hb : BlkAt w g [.slice A l.length c, X, Y] 264) :
    Con0 Tryz.prog 121 [ptr g 0, .agg #[I (pt p i).tk, I (pt p i).fr, I (pt p i).to, I (pt p i).gap, I (pt p i).inn, I (pt p i).out, I (pt p i).lev, I i, I (bgn p i), I (en p i)], I k, I lev] w (.agg #[I (snd l (pt p i) k lev).l, I (snd l (pt p i) k lev).r]) := by
  have ho := hg.each i hi
  have hsm := smp_ok hg.tks ho h0 h1
  obtain ⟨q1, q2, q3, q4⟩ := hsm
  have hD := gnD_pos ho
  have hN := gnN_bd ho h0 h1 h2
  have hdat := (h.2 _ (getD_mem q2)).1
  have hfr := ho.fr0
  have hfr1 := ho.frto
  have hto := ho.to1
  have htk := ho.tk0
  have hlen : (tkOf l (pt p i)).data.length ≤ 4096 := (tErr_zero.1 (hg.tks.each _ (getD_mem q2))).1
  have hk : k < (pt p i).to - (pt p i).fr := h1
  have hgn : gnN (pt p i) k lev ≤ 16032016000 := by
    have m := mul_bd h2 h3 (b := gnD (pt p i)) (B := 1002001000) (by omega) hD.2
    omega
  have hb1 : amt ((smp l (pt p i) k).l * gnN (pt p i) k lev) ≤ 9000000000000000000 := by
    rw [amt_mul hN.1]; have := mul_bd (amt_nonneg (smp l (pt p i) k).l) (A := 32767) (by unfold amt; omega) hN.1 hgn; omega
  have hb2 : amt ((smp l (pt p i) k).r * gnN (pt p i) k lev) ≤ 9000000000000000000 := by
    rw [amt_mul hN.1]; have := mul_bd (amt_nonneg (smp l (pt p i) k).r) (A := 32767) (by unfold amt; omega) hN.1 hgn; omega
  refine Ret_of (vs := [_, _, _, _]) hm none' Tryz.func121 rfl Tryz.ntmps121 rfl ?_
  dsimp only [slotsOf]
  refine Zp 2 [0, 1] rfl ?_;refine Zx [_, _, _, _, _, _, _, _, _, _] rfl rfl fun b5 => ?_;refine Zb rfl zc_198 fun b8 => ?_;refine GT_nil ?_;refine Zp 6 [3] rfl ?_;refine ZN [_, _, _, _, _, _, _, _, _, _] rfl ag_266 sz_266 rfl rfl ?_;refine Zr 2 rfl ?_;refine Zc rfl rn_142 (fun w hw => C_gain hi hg h0 h1 h2 h3) GR_nil ?_;refine GT_S rfl (V_makeFunc rfl rfl rfl) ?_;refine Zv rfl ?_;refine Zz ?_;refine Zs [0, 2, 5, 8, 9] rfl ?_;refine GE_drawn (.st 0 (.st 1 (.st 2 (.st 3 (.st 4 (.st 5 (.st 6 (.st 7 (.st 8 (.st 9 (.st 10 (.st 11 (.st 12 (.st 13 (.st 14 (.st 15 (.st 16 (.ld 17 [0, 1, 2, 3, 4, 5, 6, 7, 8, 9, 10, 11, 12, 13, 14, 15, 16] (.ld 18 [] .nil))))))))))))))))))) [17, 18] (by decide +kernel) ?_;refine Zr 2 rfl ?_;refine Zf rfl fo_264_0 ?_;refine ZL rfl ag_208 (.old (hb.cell rfl) (noM _)) ?_;refine Zf rfl fo_266_0 ?_;refine Zg rfl fo_210_0 rfl ag_3 rfl ?_;refine GT_S rfl (V_index rfl rfl rfl Tryz.underlying208 sz_207 (k := (pt p i).tk.toNat) (by omega) q2 (h.1.isSome q2)) ?_;refine GT_S rfl (V_fieldA rfl rfl fo_207_1) ?_;refine ZL rfl ag_199 (h.1.at1 noM q2 rfl) ?_;refine Zf rfl fo_266_0 ?_;refine Zg rfl fo_210_1 rfl ag_3 rfl ?_;refine Zv rfl ?_;refine Za rfl (by omega) ?_;refine GT_S rfl (V_index rfl rfl rfl Tryz.underlying199 sz_198 (k := ((pt p i).fr + k).toNat) (by omega) q1 (hdat.isSome q1)) ?_;refine GT_S rfl (V_loadN (vs := [_, _]) rfl rfl ag_198 sz_198 rfl (show CellsAt _ _ _ (eSam (smp l (pt p i) k)) from hdat.ats noM q1)) ?_;refine GT_alloc rfl rfl rfl rfl rfl zc_198 (fun _ => Rv rfl rfl (Rv rfl rfl (Rf rfl fo_264_0 rfl (GR_S rfl rfl (V_load rfl rfl ag_208 (.old (hb.cell rfl) (noM _))) (Rf rfl fo_266_0 rfl (Rf rfl fo_210_0 rfl (Rl rfl ag_3 rfl rfl (GR_S rfl rfl (V_index rfl rfl rfl Tryz.underlying208 sz_207 (k := (pt p i).tk.toNat) (by omega) q2 (h.1.isSome q2)) (GR_S rfl rfl (V_fieldA rfl rfl fo_207_1) (GR_S rfl rfl (V_load rfl rfl ag_199 (h.1.at1 noM q2 rfl)) (Rf rfl fo_266_0 rfl (Rf rfl fo_210_1 rfl (Rl rfl ag_3 rfl rfl (Rv rfl rfl (GR_S rfl rfl (V_add rfl rfl rfl (wrap_i64 (by omega))) (GR_S rfl rfl (V_index rfl rfl rfl Tryz.underlying199 sz_198 (k := ((pt p i).fr + k).toNat) (by omega) q1 (hdat.isSome q1)) (GR_S rfl rfl (V_loadN (vs := [_, _]) rfl rfl ag_198 sz_198 rfl (show CellsAt _ _ _ (eSam (smp l (pt p i) k)) from hdat.ats noM q1)) GR_nil))))))))))))))))) (fun b10 => ?_);refine ZS [_, _] [_, _] rfl rfl sz_198 rfl rfl rfl ?_;refine Zz ?_;refine Zs [8, 9, 10] rfl ?_;refine GE_drawn (.st 0 (.st 1 (.st 2 (.st 4 (.st 5 (.st 6 (.ld 3 [4, 5, 6] (.ld 7 [] (.st 8 (.ld 9 [] .nil)))))))))) [3, 7, 9] (by decide +kernel) ?_;refine Zv rfl ?_;refine Zg rfl fo_198_0 rfl ag_2 rfl ?_;refine Zv rfl ?_;refine Zg rfl fo_198_1 rfl ag_2 rfl ?_;refine Zc rfl rn_143 (fun w hw => C_of (by omega) hb1) (Rv rfl rfl (Rf rfl fo_198_1 rfl (Rl rfl ag_2 rfl rfl GR_nil))) ?_;refine Zc rfl rn_143 (fun w hw => C_of (by omega) hb2) GR_nil ?_;refine GT_S rfl (V_build (vs := [_, _]) rfl rfl zc_198 pl_198 sa_198 rfl) ?_;refine ZS [_, _] [_, _] rfl rfl sz_198 rfl rfl rfl ?_;refine GT_nil ?_;refine GE_ret Tryz.func121 ⟨_, rfl, fun w m => run_loadVar_agg (vs := [_, _]) ag_198 sz_198 rfl (fun j v hj => CellsAt.item rfl j v hj w m)⟩ (fun w hw => ⟨?_, hw.nil⟩)
  rfl
end
end Go.Proofs.YtncleikbggjmjaaGreatDoor.Take
