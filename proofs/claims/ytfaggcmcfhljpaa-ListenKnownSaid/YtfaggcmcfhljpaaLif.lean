/- The certain and the possible discs, and the suspects: walked. -/
import Derived.Test.YtfaggcmcfhljpaaSxG
import Derived.Test.YtfaggcmcfhljpaaLie
namespace Go.Proofs.Ytfaggcmcfhljpaa
open Go.Sx Go.Proofs

section
variable {p : List Plt} {d : List Dsc} {h : List Hrg} {A A2 A5 : Option Addr} {c c2 c5 : Nat} {side : Int} {w : World}
theorem C_Certain1 {n a : Nat} : Con0 Try.prog 55 [I n, I a] w (.bool (decide (0 < n) && decide (n = a))) := by
  have hd : ∀ q : Bool, (0 < n ∧ n = a ↔ q = true) → Value.bool q = Value.bool (decide (0 < n) && decide (n = a)) := fun q hq => congrArg Value.bool (by rw [Bool.eq_iff_iff, ← hq]; simp)
  refine Ret_of (vs := [_, _]) hm none' Try.func55 rfl Try.ntmps55 rfl ?_
  dsimp only [slotsOf]
  refine GE_seq ?_
  refine GE_plain (.st 0 .nil) rfl ?_
  refine GT_st rfl rfl rfl rfl (V_assign rfl rfl) ?_
  refine GT_nil ?_
  refine GE_seq ?_
  refine GE_plain (.st 0 (.st 1 (.st 2 (.st 3 (.st 4 (.st 5 (.st 6 (.st 7 .nil)))))))) rfl ?_
  refine GT_st rfl rfl rfl rfl (V_move rfl rfl) ?_
  refine GT_st rfl rfl rfl rfl (V_gtr rfl rfl rfl) ?_
  refine GT_st rfl rfl rfl rfl (V_move rfl rfl) ?_
  first | refine GT_splitNot (d := 7) rfl (fun h1 => ?_) (fun h1 => ?_) | refine GT_split (d := 7) rfl (fun h1 => ?_) (fun h1 => ?_) | refine GT_splitNotB (d := 7) rfl (fun h1 => ?_) (fun h1 => ?_) | refine GT_splitB (d := 7) rfl (fun h1 => ?_) (fun h1 => ?_)
  · skip
    refine GT_st_g rfl rfl rfl rfl rfl rfl rfl (V_move rfl rfl) ?_
    refine GT_st_g rfl rfl rfl rfl rfl rfl rfl (V_move rfl rfl) ?_
    refine GT_st_g rfl rfl rfl rfl rfl rfl rfl (V_eql rfl rfl rfl) ?_
    refine GT_st rfl rfl rfl rfl (V_pick_t rfl rfl rfl) ?_
    refine GT_st rfl rfl rfl rfl (V_assign rfl rfl) ?_
    refine GT_nil ?_
    refine GE_ret Try.func55 rfl (fun w hw => ⟨?_, hw.nil⟩)
    refine hd _ ?_; first | (simp; done) | (simp; omega)
  · skip
    refine GT_skip rfl rfl rfl rfl rfl (by decide) rfl rfl ?_
    refine GT_skip rfl rfl rfl rfl rfl (by decide) rfl rfl ?_
    refine GT_skip rfl rfl rfl rfl rfl (by decide) rfl rfl ?_
    refine GT_st rfl rfl rfl rfl (V_pick_f rfl rfl rfl) ?_
    refine GT_st rfl rfl rfl rfl (V_assign rfl rfl) ?_
    refine GT_nil ?_
    refine GE_ret Try.func55 rfl (fun w hw => ⟨?_, hw.nil⟩)
    refine hd _ ?_; first | (simp; done) | (simp; omega)
theorem C_Possible1 {n a : Nat} : Con0 Try.prog 56 [I n, I a] w (.bool (decide (0 < n))) := by
  have hd : ∀ q : Bool, (0 < n ↔ q = true) → Value.bool q = Value.bool (decide (0 < n)) := fun q hq => congrArg Value.bool (by rw [Bool.eq_iff_iff, ← hq]; simp)
  refine Ret_of (vs := [_, _]) hm none' Try.func56 rfl Try.ntmps56 rfl ?_
  dsimp only [slotsOf]
  refine GE_seq ?_
  refine GE_plain (.st 0 .nil) rfl ?_
  refine GT_st rfl rfl rfl rfl (V_assign rfl rfl) ?_
  refine GT_nil ?_
  refine GE_seq ?_
  refine GE_plain (.st 0 (.st 1 (.st 2 .nil))) rfl ?_
  refine GT_st rfl rfl rfl rfl (V_move rfl rfl) ?_
  refine GT_st rfl rfl rfl rfl (V_gtr rfl rfl rfl) ?_
  refine GT_st rfl rfl rfl rfl (V_assign rfl rfl) ?_
  refine GT_nil ?_
  refine GE_ret Try.func56 rfl (fun w hw => ⟨?_, hw.nil⟩)
  refine hd _ ?_; first | (simp; done) | (simp; omega)

/-! Certain -/
def certL (p : List Plt) (d : List Dsc) (side : Int) (h : List Hrg) : List Int := if hearE p d side h = 0 then certS d (leftS p d side h) else []
theorem certB_of {xs : List Sus} {k n : Nat} (hn : n = xs.length) : certB xs k = (decide (0 < mny xs k) && decide (mny xs k = n)) := by subst hn; rfl
set_option maxRecDepth 10000 in
theorem C_filter_cert (hp : RdL w 7 ePlt A p) (hwf : ∀ x ∈ p, Plt.wf x) (hd : RdL w 7 eDsc A2 d) (hdf : ∀ x ∈ d, Dsc.wf x) (hh : RdL w 2 eHrg A5 h) :
    Con Try.prog 54 [.slice A p.length c, .slice A2 d.length c2, I side, .slice A5 h.length c5, .func (.func 55) #[] #[]] w (fun y : Option Addr × Nat × Items => Own 1 2 eI (certL p d side h) (.slice y.1 (certL p d side h).length y.2.1) y.2.2)
      (fun y => .tuple #[.slice y.1 (certL p d side h).length y.2.1, I (hearE p d side h)]) (fun y => y.2.2) := by
  by_cases he : hearE p d side h = 0
  · have hR := (hearE_zero.1 he).1
    have hle := leftS_le (h := h) hR
    have hdl := hR.dl
    have hcl : certL p d side h = certS d (leftS p d side h) := if_pos he
    refine Ret_of (vs := [_, _, _, _, _]) hm none' Try.func54 rfl Try.ntmps54 rfl ?_
    dsimp only [slotsOf]
    refine GE_seq ?_
    refine GE_plain (.st 0 (.st 1 .nil)) rfl ?_
    refine GT_st rfl rfl rfl rfl (V_assign rfl rfl) ?_
    refine GT_st rfl rfl rfl rfl (V_assign rfl rfl) ?_
    refine GT_nil ?_
    refine GE_seq ?_
    refine GE_plain (.st 0 (.st 1 (.st 2 (.st 3 (.ld 4 [] (.st 5 (.st 6 (.st 7 (.st 8 (.st 9 (.st 10 (.st 11 .nil)))))))))))) rfl ?_
    refine GT_st rfl rfl rfl rfl (V_move rfl rfl) ?_
    refine GT_st rfl rfl rfl rfl (V_move rfl rfl) ?_
    refine GT_st rfl rfl rfl rfl (V_move rfl rfl) ?_
    refine GT_st rfl rfl rfl rfl (V_move rfl rfl) ?_
    refine GT_call rfl rfl rfl rfl rfl rfl rfl rfl rn_46 (fun w hw => C_left_ok (hp.sh hw) hwf (hd.sh hw) hdf (hh.sh hw) he) (fun _ _ => GR_nil) (fun y hy => ?_)
    obtain ⟨g, A3, c3, I3, A4, c4, I4, l, Al, cl, Il, Ih⟩ := y; obtain ⟨hO3, hO4, hL⟩ := hy; dsimp only [LeftY.items] at hO3 hO4 hL ⊢; have hll := hL.len; have hxl : (l.map SusA.x).length = l.length := List.length_map ..
    refine GT_st rfl rfl rfl rfl (V_move rfl rfl) ?_
    refine GT_st rfl rfl rfl rfl (V_extract rfl rfl rfl) ?_
    refine GT_st rfl rfl rfl rfl (V_extract rfl rfl rfl) ?_
    refine GT_st rfl rfl rfl rfl (V_extract rfl rfl rfl) ?_
    refine GT_st rfl rfl rfl rfl (V_assign rfl rfl) ?_
    refine GT_st rfl rfl rfl rfl (V_assign rfl rfl) ?_
    refine GT_st rfl rfl rfl rfl (V_assign rfl rfl) ?_
    refine GT_nil ?_
    refine GE_seq ?_
    refine GE_seq ?_
    refine GE_slots (L' := [(4, _), (12, _), (13, _), (14, _)]) ⟨rfl, rfl, rfl, rfl, trivial⟩ ?_
    refine GE_plain (.st 0 (.st 1 .nil)) rfl ?_
    refine GT_st rfl rfl rfl rfl (V_move rfl rfl) ?_
    refine GT_st rfl rfl rfl rfl (V_neq rfl rfl rfl) ?_
    refine GT_nil ?_
    first | refine GE_condNot rfl (fun h1 => ?_) (fun h1 => ?_) | refine GE_cond rfl (fun h1 => ?_) (fun h1 => ?_) | refine GE_condNotB rfl (fun h1 => ?_) (fun h1 => ?_) | refine GE_condB rfl (fun h1 => ?_) (fun h1 => ?_)
    · exact absurd rfl h1
    · skip
      refine GE_skip ?_
      refine GE_seq ?_
      refine GE_plain (.st 0 .nil) rfl ?_
      refine GT_st rfl rfl rfl rfl (V_assign rfl rfl) ?_
      refine GT_nil ?_
      refine GE_seq ?_
      refine GE_seq ?_
      refine GE_plain (.st 0 (.st 1 (.ld 2 [] (.st 3 (.st 4 .nil))))) rfl ?_
      refine GT_st rfl rfl rfl rfl (V_move rfl rfl) ?_
      refine GT_st rfl rfl rfl rfl (V_move rfl rfl) ?_
      refine GT_call rfl rfl rfl rfl rfl rfl rfl rfl rn_53 (fun w hw => C_many (BlkAt.of hw) (hL.own.rdH eSus_len hw) (hL.hold _ _ _ (hw.chunk (I := Ih))) hL.n hdl (by omega)) (fun _ _ => GR_nil) (fun u hu => ?_)
      refine GT_st rfl rfl rfl rfl (V_len rfl Try.underlying66 rfl) ?_
      refine GT_st rfl rfl rfl rfl (V_move rfl rfl) ?_
      refine GT_nil ?_
      refine GE_block ?_
      refine GE_to (GE_loop (ι := Nat × Option Addr × Nat × Items) (fun x => d.length - x.1) (fun x => [(4, .func (.func 55) #[] #[]), (12, ptr g 0), (13, .slice Al l.length cl), (15, .slice x.2.1 (pickTo d (certB (l.map SusA.x)) x.1).length x.2.2.1), (32, .slice (some ⟨u.1, 0, none⟩) d.length d.length), (33, I d.length), (34, I x.1)]) (fun x => x.2.2.2 ++ ((g, blk (roomC A A3 A4 p.length d.length c c3 c4) 101) :: (u.2 ++ I3))) (fun x => x.1 ≤ d.length ∧ Own 1 2 eI (pickTo d (certB (l.map SusA.x)) x.1) (.slice x.2.1 (pickTo d (certB (l.map SusA.x)) x.1).length x.2.2.1) x.2.2.2) ?_ (0, none, 0, []) ?_) ⟨rfl, rfl, rfl, rfl, rfl, rfl, rfl, trivial⟩ (HS.chunk (I := []) (HS.cons rfl (HS.chunk HS.last)))
      · rintro ⟨k, A', c', I'⟩ ⟨hk, hO⟩ ih; dsimp only at hk hO ih ⊢; have hpl := pickTo_le (d := d) (f := certB (l.map SusA.x)) (k := k)
        refine GE_seq ?_
        refine GE_plain (.st 0 .nil) rfl ?_
        refine GT_st rfl rfl rfl rfl (V_lss rfl rfl rfl) ?_
        refine GT_nil ?_
        refine GE_seq ?_
        first | refine GE_condNot rfl (fun h2 => ?_) (fun h2 => ?_) | refine GE_cond rfl (fun h2 => ?_) (fun h2 => ?_) | refine GE_condNotB rfl (fun h2 => ?_) (fun h2 => ?_) | refine GE_condB rfl (fun h2 => ?_) (fun h2 => ?_)
        · have hkl : k < d.length := (by omega); have hBk := certB_of (xs := l.map SusA.x) (k := k) hxl.symm
          refine GE_skip ?_
          refine GE_seq ?_
          refine GE_block ?_
          refine GE_seq ?_
          refine GE_plain (.st 0 (.st 1 (.st 2 (.st 3 (.st 4 .nil))))) rfl ?_
          refine GT_st rfl rfl rfl rfl (V_move rfl rfl) ?_
          refine GT_st rfl rfl rfl rfl (V_index rfl rfl rfl Try.underlying66 sz_3 (k := k) rfl hkl rfl) ?_
          refine GT_st rfl rfl rfl rfl (V_load rfl rfl ag_3 (CellAt.own0 hu eI_len (by rw [manyL_len]; omega) (by rw [manyL_get hkl]; rfl))) ?_
          refine GT_st rfl rfl rfl rfl (V_assign rfl rfl) ?_
          refine GT_st rfl rfl rfl rfl (V_assign rfl rfl) ?_
          refine GT_nil ?_
          refine GE_seq ?_
          refine GE_slots (L' := [(4, _), (12, _), (13, _), (15, _), (16, _), (17, _), (32, _), (33, _), (34, _)]) ⟨rfl, rfl, rfl, rfl, rfl, rfl, rfl, rfl, rfl, trivial⟩ ?_
          refine GE_plain (.st 0 (.st 1 (.st 2 (.st 3 (.ld 4 [] .nil))))) rfl ?_
          refine GT_st rfl rfl rfl rfl (V_move rfl rfl) ?_
          refine GT_st rfl rfl rfl rfl (V_move rfl rfl) ?_
          refine GT_st rfl rfl rfl rfl (V_move rfl rfl) ?_
          refine GT_st rfl rfl rfl rfl (V_len rfl Try.underlying87 rfl) ?_
          refine GT_call0 rfl rfl rfl rfl rfl rfl rfl rfl rn_55 (fun w hw => C_Certain1 (n := mny (l.map SusA.x) k) (a := l.length)) (GR_nil) ?_
          rw [← hBk]
          refine GT_nil ?_
          first | refine GE_condNot rfl (fun h3 => ?_) (fun h3 => ?_) | refine GE_cond rfl (fun h3 => ?_) (fun h3 => ?_) | refine GE_condNotB rfl (fun h3 => ?_) (fun h3 => ?_) | refine GE_condB rfl (fun h3 => ?_) (fun h3 => ?_)
          · have e1 : pickTo d (certB (l.map SusA.x)) k ++ [(d.getD k default).ser] = pickTo d (certB (l.map SusA.x)) (k + 1) := (by first | rw [pickTo_succ, h3, if_pos rfl] | rw [pickTo_succ, if_pos (show certB _ k = true from decide_eq_true h3)])
            refine GE_slots (L' := [(4, _), (12, _), (13, _), (15, _), (16, _), (32, _), (33, _), (34, _)]) ⟨rfl, rfl, rfl, rfl, rfl, rfl, rfl, rfl, trivial⟩ ?_
            refine GE_plain (.st 0 (.st 1 (.st 2 (.st 3 (.st 4 (.st 5 (.st 6 (.st 7 (.ld 8 [] (.ld 9 [] (.ld 10 [] .nil))))))))))) rfl ?_
            refine GT_st rfl rfl rfl rfl (V_move rfl rfl) ?_
            refine GT_st rfl rfl rfl rfl (V_move rfl rfl) ?_
            first | refine GT_st rfl rfl rfl rfl (V_nilCheck rfl rfl) ?_ | refine GT_st rfl rfl rfl rfl (V_nilCheck_func rfl rfl) ?_ | refine GT_st rfl rfl rfl rfl (V_nilCheck_yield rfl rfl) ?_
            first | refine GT_st rfl rfl rfl rfl (V_field rfl rfl fo_101_1) ?_ | refine GT_st rfl rfl rfl rfl (V_fieldA rfl rfl fo_101_1) ?_
            refine GT_st rfl rfl rfl rfl (V_load rfl rfl ag_42 (CellAt.item rfl)) ?_
            refine GT_st rfl rfl rfl rfl (V_move rfl rfl) ?_
            refine GT_st rfl rfl rfl rfl (V_index rfl rfl rfl Try.underlying42 sz_2 (k := k) rfl hkl (hO3.isSome (k := k) (by rw [serS_len]; exact hkl))) ?_
            refine GT_st rfl rfl rfl rfl (V_load rfl rfl ag_2 (CellAt.own0 hO3 eI_len (by rw [serS_len]; exact hkl) (by rw [serS_get hkl]; rfl))) ?_
            refine GT_buildSlice (z := [_]) rfl rfl rfl rfl rfl Try.underlying42 zc_2 sz_2 (by decide) rfl rfl (fun _ => GR_nil) (fun b52 => ?_)
            refine GT_append (enc := eI) (m := [(d.getD k default).ser]) rfl rfl rfl rfl rfl rfl rfl hO (fun w m => RdL.own' m eI_len) Try.underlying42 zc_2 sz_2 ⟨rfl, by decide⟩ by_2 ⟨by simp only [List.length_singleton]; omega, by simp only [List.length_singleton]; omega⟩ eI_len eI_one (fun _ _ _ _ => GR_nil) (fun A2' c2' I2' hO2 => ?_)
            refine GT_ldv rfl rfl rfl rfl rfl (V_assign rfl rfl) (GR_nil) ?_
            refine GT_nil ?_
            refine GE_inBlock ?_
            refine GE_slots (L' := [(4, _), (12, _), (13, _), (15, _), (32, _), (33, _), (34, _)]) ⟨rfl, rfl, rfl, rfl, rfl, rfl, rfl, trivial⟩ ?_
            refine GE_plain (.st 0 (.ld 1 [] .nil)) rfl ?_
            refine GT_st rfl rfl rfl rfl (V_add rfl rfl rfl (wrap_i64 (by omega))) ?_
            refine GT_ldv rfl rfl rfl rfl rfl (V_move rfl rfl) (GR_nil) ?_
            refine GT_nil ?_
            first
              | (rw [e1] at hO2 ⊢; exact GE_to (ih (k + 1, A2', c2', I2') ⟨by dsimp only; omega, hO2⟩ (by dsimp only; omega)) ⟨rfl, rfl, rfl, rfl, rfl, rfl, rfl, trivial⟩ (HS.chunk (HS.cons rfl (HS.chunk HS.last))))
              | (have hO2 := hO; rw [← e1] at hO2 ⊢; exact GE_to (ih (k + 1, A', c', I') ⟨by dsimp only; omega, hO2⟩ (by dsimp only; omega)) ⟨rfl, rfl, rfl, rfl, rfl, rfl, rfl, trivial⟩ (HS.chunk (HS.cons rfl (HS.chunk HS.last))))
          · have e1 : pickTo d (certB (l.map SusA.x)) (k + 1) = pickTo d (certB (l.map SusA.x)) k := (by first | rw [pickTo_succ, h3, if_neg (by decide), List.append_nil] | (have hq : ¬ certB (l.map SusA.x) k = true := (fun q => h3 (of_decide_eq_true (by rw [hBk] at q; exact q))); rw [pickTo_succ, if_neg hq, List.append_nil]))
            refine GE_skip ?_
            refine GE_inBlock ?_
            refine GE_slots (L' := [(4, _), (12, _), (13, _), (15, _), (32, _), (33, _), (34, _)]) ⟨rfl, rfl, rfl, rfl, rfl, rfl, rfl, trivial⟩ ?_
            refine GE_plain (.st 0 (.ld 1 [] .nil)) rfl ?_
            refine GT_st rfl rfl rfl rfl (V_add rfl rfl rfl (wrap_i64 (by omega))) ?_
            refine GT_ldv rfl rfl rfl rfl rfl (V_move rfl rfl) (GR_nil) ?_
            refine GT_nil ?_
            first
              | (rw [e1] at hO2 ⊢; exact GE_to (ih (k + 1, A2', c2', I2') ⟨by dsimp only; omega, hO2⟩ (by dsimp only; omega)) ⟨rfl, rfl, rfl, rfl, rfl, rfl, rfl, trivial⟩ (HS.chunk (HS.cons rfl (HS.chunk HS.last))))
              | (have hO2 := hO; rw [← e1] at hO2 ⊢; exact GE_to (ih (k + 1, A', c', I') ⟨by dsimp only; omega, hO2⟩ (by dsimp only; omega)) ⟨rfl, rfl, rfl, rfl, rfl, rfl, rfl, trivial⟩ (HS.chunk (HS.cons rfl (HS.chunk HS.last))))
        · obtain rfl : k = d.length := (by omega)
          refine GE_exit rfl ?_
          refine GE_seq ?_
          refine GE_slots (L' := [(15, _)]) ⟨rfl, trivial⟩ ?_
          refine GE_plain (.st 0 (.st 1 (.st 2 .nil))) rfl ?_
          refine GT_st rfl rfl rfl rfl (V_move rfl rfl) ?_
          refine GT_st rfl rfl rfl rfl (V_assign rfl rfl) ?_
          refine GT_st rfl rfl rfl rfl (V_assign rfl rfl) ?_
          refine GT_nil ?_
          refine GE_ret Try.func54 ⟨_, _, rfl, rfl, rfl⟩ (fun w hw => ?_)
          have e2 : pickTo d (certB (l.map SusA.x)) d.length = certL p d side h := (by rw [hcl, ← hL.eq]; rfl); rw [e2] at hO ⊢; rw [he]; exact ⟨(A', c', I'), hO, rfl, hw.chunk⟩
      · exact ⟨Nat.zero_le _, Own.nil⟩
  · have hcl : certL p d side h = [] := if_neg he
    refine Ret_of (vs := [_, _, _, _, _]) hm none' Try.func54 rfl Try.ntmps54 rfl ?_
    dsimp only [slotsOf]
    refine GE_seq ?_
    refine GE_plain (.st 0 (.st 1 .nil)) rfl ?_
    refine GT_st rfl rfl rfl rfl (V_assign rfl rfl) ?_
    refine GT_st rfl rfl rfl rfl (V_assign rfl rfl) ?_
    refine GT_nil ?_
    refine GE_seq ?_
    refine GE_plain (.st 0 (.st 1 (.st 2 (.st 3 (.ld 4 [] (.st 5 (.st 6 (.st 7 (.st 8 (.st 9 (.st 10 (.st 11 .nil)))))))))))) rfl ?_
    refine GT_st rfl rfl rfl rfl (V_move rfl rfl) ?_
    refine GT_st rfl rfl rfl rfl (V_move rfl rfl) ?_
    refine GT_st rfl rfl rfl rfl (V_move rfl rfl) ?_
    refine GT_st rfl rfl rfl rfl (V_move rfl rfl) ?_
    refine GT_call0 rfl rfl rfl rfl rfl rfl rfl rfl rn_46 (fun w hw => C_left_err (hp.sh hw) hwf (hd.sh hw) hdf (hh.sh hw) he) (GR_nil) ?_
    refine GT_st rfl rfl rfl rfl (V_move rfl rfl) ?_
    refine GT_st rfl rfl rfl rfl (V_extract rfl rfl rfl) ?_
    refine GT_st rfl rfl rfl rfl (V_extract rfl rfl rfl) ?_
    refine GT_st rfl rfl rfl rfl (V_extract rfl rfl rfl) ?_
    refine GT_st rfl rfl rfl rfl (V_assign rfl rfl) ?_
    refine GT_st rfl rfl rfl rfl (V_assign rfl rfl) ?_
    refine GT_st rfl rfl rfl rfl (V_assign rfl rfl) ?_
    refine GT_nil ?_
    refine GE_seq ?_
    refine GE_seq ?_
    refine GE_slots (L' := [(4, _), (12, _), (13, _), (14, _)]) ⟨rfl, rfl, rfl, rfl, trivial⟩ ?_
    refine GE_plain (.st 0 (.st 1 .nil)) rfl ?_
    refine GT_st rfl rfl rfl rfl (V_move rfl rfl) ?_
    refine GT_st rfl rfl rfl rfl (V_neq rfl rfl rfl) ?_
    refine GT_nil ?_
    first | refine GE_condNot rfl (fun h1 => ?_) (fun h1 => ?_) | refine GE_cond rfl (fun h1 => ?_) (fun h1 => ?_) | refine GE_condNotB rfl (fun h1 => ?_) (fun h1 => ?_) | refine GE_condB rfl (fun h1 => ?_) (fun h1 => ?_)
    · skip
      refine GE_seq ?_
      refine GE_slots (L' := [(14, _)]) ⟨rfl, trivial⟩ ?_
      refine GE_plain (.st 0 (.st 1 (.st 2 .nil))) rfl ?_
      refine GT_st rfl rfl rfl rfl (V_move rfl rfl) ?_
      refine GT_st rfl rfl rfl rfl (V_assign rfl rfl) ?_
      refine GT_st rfl rfl rfl rfl (V_assign rfl rfl) ?_
      refine GT_nil ?_
      refine GE_ret Try.func54 ⟨_, _, rfl, rfl, rfl⟩ (fun w hw => ?_)
      rw [hcl]; exact ⟨(none, 0, []), Own.nil, rfl, hw.nil⟩
    · exact absurd h1 he
theorem C_Certain (hp : RdL w 7 ePlt A p) (hwf : ∀ x ∈ p, Plt.wf x) (hd : RdL w 7 eDsc A2 d) (hdf : ∀ x ∈ d, Dsc.wf x) (hh : RdL w 2 eHrg A5 h) :
    Con Try.prog 30 [.slice A p.length c, .slice A2 d.length c2, I side, .slice A5 h.length c5] w (fun y : Option Addr × Nat × Items => Own 1 2 eI (certL p d side h) (.slice y.1 (certL p d side h).length y.2.1) y.2.2)
      (fun y => .tuple #[.slice y.1 (certL p d side h).length y.2.1, I (hearE p d side h)]) (fun y => y.2.2) := by
  refine Ret_of (vs := [_, _, _, _]) hm none' Try.func30 rfl Try.ntmps30 rfl ?_
  dsimp only [slotsOf]
  refine GE_seq ?_
  refine GE_plain (.st 0 (.st 1 .nil)) rfl ?_
  refine GT_st rfl rfl rfl rfl (V_assign rfl rfl) ?_
  refine GT_st rfl rfl rfl rfl (V_assign rfl rfl) ?_
  refine GT_nil ?_
  refine GE_seq ?_
  refine GE_plain (.st 0 (.st 1 (.st 2 (.st 3 (.ld 4 [] (.st 5 (.st 6 (.st 7 (.st 8 .nil))))))))) rfl ?_
  refine GT_st rfl rfl rfl rfl (V_move rfl rfl) ?_
  refine GT_st rfl rfl rfl rfl (V_move rfl rfl) ?_
  refine GT_st rfl rfl rfl rfl (V_move rfl rfl) ?_
  refine GT_st rfl rfl rfl rfl (V_move rfl rfl) ?_
  refine GT_call rfl rfl rfl rfl rfl rfl rfl rfl rn_54 (fun w hw => C_filter_cert (hp.sh hw) hwf (hd.sh hw) hdf (hh.sh hw)) (fun _ _ => GR_nil) (fun y hy => ?_)
  refine GT_st rfl rfl rfl rfl (V_extract rfl rfl rfl) ?_
  refine GT_st rfl rfl rfl rfl (V_extract rfl rfl rfl) ?_
  refine GT_st rfl rfl rfl rfl (V_assign rfl rfl) ?_
  refine GT_st rfl rfl rfl rfl (V_assign rfl rfl) ?_
  refine GT_nil ?_
  refine GE_ret Try.func30 ⟨_, _, rfl, rfl, rfl⟩ (fun w hw => ⟨y, hy, rfl, hw.chunk⟩)
  skip

/-! Possible -/
def possL (p : List Plt) (d : List Dsc) (side : Int) (h : List Hrg) : List Int := if hearE p d side h = 0 then possS d (leftS p d side h) else []
theorem possB_of {xs : List Sus} {k n : Nat} (hn : n = xs.length) : possB xs k = (decide (0 < mny xs k)) := by subst hn; rfl
set_option maxRecDepth 10000 in
theorem C_filter_poss (hp : RdL w 7 ePlt A p) (hwf : ∀ x ∈ p, Plt.wf x) (hd : RdL w 7 eDsc A2 d) (hdf : ∀ x ∈ d, Dsc.wf x) (hh : RdL w 2 eHrg A5 h) :
    Con Try.prog 54 [.slice A p.length c, .slice A2 d.length c2, I side, .slice A5 h.length c5, .func (.func 56) #[] #[]] w (fun y : Option Addr × Nat × Items => Own 1 2 eI (possL p d side h) (.slice y.1 (possL p d side h).length y.2.1) y.2.2)
      (fun y => .tuple #[.slice y.1 (possL p d side h).length y.2.1, I (hearE p d side h)]) (fun y => y.2.2) := by
  by_cases he : hearE p d side h = 0
  · have hR := (hearE_zero.1 he).1
    have hle := leftS_le (h := h) hR
    have hdl := hR.dl
    have hcl : possL p d side h = possS d (leftS p d side h) := if_pos he
    refine Ret_of (vs := [_, _, _, _, _]) hm none' Try.func54 rfl Try.ntmps54 rfl ?_
    dsimp only [slotsOf]
    refine GE_seq ?_
    refine GE_plain (.st 0 (.st 1 .nil)) rfl ?_
    refine GT_st rfl rfl rfl rfl (V_assign rfl rfl) ?_
    refine GT_st rfl rfl rfl rfl (V_assign rfl rfl) ?_
    refine GT_nil ?_
    refine GE_seq ?_
    refine GE_plain (.st 0 (.st 1 (.st 2 (.st 3 (.ld 4 [] (.st 5 (.st 6 (.st 7 (.st 8 (.st 9 (.st 10 (.st 11 .nil)))))))))))) rfl ?_
    refine GT_st rfl rfl rfl rfl (V_move rfl rfl) ?_
    refine GT_st rfl rfl rfl rfl (V_move rfl rfl) ?_
    refine GT_st rfl rfl rfl rfl (V_move rfl rfl) ?_
    refine GT_st rfl rfl rfl rfl (V_move rfl rfl) ?_
    refine GT_call rfl rfl rfl rfl rfl rfl rfl rfl rn_46 (fun w hw => C_left_ok (hp.sh hw) hwf (hd.sh hw) hdf (hh.sh hw) he) (fun _ _ => GR_nil) (fun y hy => ?_)
    obtain ⟨g, A3, c3, I3, A4, c4, I4, l, Al, cl, Il, Ih⟩ := y; obtain ⟨hO3, hO4, hL⟩ := hy; dsimp only [LeftY.items] at hO3 hO4 hL ⊢; have hll := hL.len; have hxl : (l.map SusA.x).length = l.length := List.length_map ..
    refine GT_st rfl rfl rfl rfl (V_move rfl rfl) ?_
    refine GT_st rfl rfl rfl rfl (V_extract rfl rfl rfl) ?_
    refine GT_st rfl rfl rfl rfl (V_extract rfl rfl rfl) ?_
    refine GT_st rfl rfl rfl rfl (V_extract rfl rfl rfl) ?_
    refine GT_st rfl rfl rfl rfl (V_assign rfl rfl) ?_
    refine GT_st rfl rfl rfl rfl (V_assign rfl rfl) ?_
    refine GT_st rfl rfl rfl rfl (V_assign rfl rfl) ?_
    refine GT_nil ?_
    refine GE_seq ?_
    refine GE_seq ?_
    refine GE_slots (L' := [(4, _), (12, _), (13, _), (14, _)]) ⟨rfl, rfl, rfl, rfl, trivial⟩ ?_
    refine GE_plain (.st 0 (.st 1 .nil)) rfl ?_
    refine GT_st rfl rfl rfl rfl (V_move rfl rfl) ?_
    refine GT_st rfl rfl rfl rfl (V_neq rfl rfl rfl) ?_
    refine GT_nil ?_
    first | refine GE_condNot rfl (fun h1 => ?_) (fun h1 => ?_) | refine GE_cond rfl (fun h1 => ?_) (fun h1 => ?_) | refine GE_condNotB rfl (fun h1 => ?_) (fun h1 => ?_) | refine GE_condB rfl (fun h1 => ?_) (fun h1 => ?_)
    · exact absurd rfl h1
    · skip
      refine GE_skip ?_
      refine GE_seq ?_
      refine GE_plain (.st 0 .nil) rfl ?_
      refine GT_st rfl rfl rfl rfl (V_assign rfl rfl) ?_
      refine GT_nil ?_
      refine GE_seq ?_
      refine GE_seq ?_
      refine GE_plain (.st 0 (.st 1 (.ld 2 [] (.st 3 (.st 4 .nil))))) rfl ?_
      refine GT_st rfl rfl rfl rfl (V_move rfl rfl) ?_
      refine GT_st rfl rfl rfl rfl (V_move rfl rfl) ?_
      refine GT_call rfl rfl rfl rfl rfl rfl rfl rfl rn_53 (fun w hw => C_many (BlkAt.of hw) (hL.own.rdH eSus_len hw) (hL.hold _ _ _ (hw.chunk (I := Ih))) hL.n hdl (by omega)) (fun _ _ => GR_nil) (fun u hu => ?_)
      refine GT_st rfl rfl rfl rfl (V_len rfl Try.underlying66 rfl) ?_
      refine GT_st rfl rfl rfl rfl (V_move rfl rfl) ?_
      refine GT_nil ?_
      refine GE_block ?_
      refine GE_to (GE_loop (ι := Nat × Option Addr × Nat × Items) (fun x => d.length - x.1) (fun x => [(4, .func (.func 56) #[] #[]), (12, ptr g 0), (13, .slice Al l.length cl), (15, .slice x.2.1 (pickTo d (possB (l.map SusA.x)) x.1).length x.2.2.1), (32, .slice (some ⟨u.1, 0, none⟩) d.length d.length), (33, I d.length), (34, I x.1)]) (fun x => x.2.2.2 ++ ((g, blk (roomC A A3 A4 p.length d.length c c3 c4) 101) :: (u.2 ++ I3))) (fun x => x.1 ≤ d.length ∧ Own 1 2 eI (pickTo d (possB (l.map SusA.x)) x.1) (.slice x.2.1 (pickTo d (possB (l.map SusA.x)) x.1).length x.2.2.1) x.2.2.2) ?_ (0, none, 0, []) ?_) ⟨rfl, rfl, rfl, rfl, rfl, rfl, rfl, trivial⟩ (HS.chunk (I := []) (HS.cons rfl (HS.chunk HS.last)))
      · rintro ⟨k, A', c', I'⟩ ⟨hk, hO⟩ ih; dsimp only at hk hO ih ⊢; have hpl := pickTo_le (d := d) (f := possB (l.map SusA.x)) (k := k)
        refine GE_seq ?_
        refine GE_plain (.st 0 .nil) rfl ?_
        refine GT_st rfl rfl rfl rfl (V_lss rfl rfl rfl) ?_
        refine GT_nil ?_
        refine GE_seq ?_
        first | refine GE_condNot rfl (fun h2 => ?_) (fun h2 => ?_) | refine GE_cond rfl (fun h2 => ?_) (fun h2 => ?_) | refine GE_condNotB rfl (fun h2 => ?_) (fun h2 => ?_) | refine GE_condB rfl (fun h2 => ?_) (fun h2 => ?_)
        · have hkl : k < d.length := (by omega); have hBk := possB_of (xs := l.map SusA.x) (k := k) hxl.symm
          refine GE_skip ?_
          refine GE_seq ?_
          refine GE_block ?_
          refine GE_seq ?_
          refine GE_plain (.st 0 (.st 1 (.st 2 (.st 3 (.st 4 .nil))))) rfl ?_
          refine GT_st rfl rfl rfl rfl (V_move rfl rfl) ?_
          refine GT_st rfl rfl rfl rfl (V_index rfl rfl rfl Try.underlying66 sz_3 (k := k) rfl hkl rfl) ?_
          refine GT_st rfl rfl rfl rfl (V_load rfl rfl ag_3 (CellAt.own0 hu eI_len (by rw [manyL_len]; omega) (by rw [manyL_get hkl]; rfl))) ?_
          refine GT_st rfl rfl rfl rfl (V_assign rfl rfl) ?_
          refine GT_st rfl rfl rfl rfl (V_assign rfl rfl) ?_
          refine GT_nil ?_
          refine GE_seq ?_
          refine GE_slots (L' := [(4, _), (12, _), (13, _), (15, _), (16, _), (17, _), (32, _), (33, _), (34, _)]) ⟨rfl, rfl, rfl, rfl, rfl, rfl, rfl, rfl, rfl, trivial⟩ ?_
          refine GE_plain (.st 0 (.st 1 (.st 2 (.st 3 (.ld 4 [] .nil))))) rfl ?_
          refine GT_st rfl rfl rfl rfl (V_move rfl rfl) ?_
          refine GT_st rfl rfl rfl rfl (V_move rfl rfl) ?_
          refine GT_st rfl rfl rfl rfl (V_move rfl rfl) ?_
          refine GT_st rfl rfl rfl rfl (V_len rfl Try.underlying87 rfl) ?_
          refine GT_call0 rfl rfl rfl rfl rfl rfl rfl rfl rn_56 (fun w hw => C_Possible1 (n := mny (l.map SusA.x) k) (a := l.length)) (GR_nil) ?_
          rw [← hBk]
          refine GT_nil ?_
          first | refine GE_condNot rfl (fun h3 => ?_) (fun h3 => ?_) | refine GE_cond rfl (fun h3 => ?_) (fun h3 => ?_) | refine GE_condNotB rfl (fun h3 => ?_) (fun h3 => ?_) | refine GE_condB rfl (fun h3 => ?_) (fun h3 => ?_)
          · have e1 : pickTo d (possB (l.map SusA.x)) k ++ [(d.getD k default).ser] = pickTo d (possB (l.map SusA.x)) (k + 1) := (by first | rw [pickTo_succ, h3, if_pos rfl] | rw [pickTo_succ, if_pos (show possB _ k = true from decide_eq_true h3)])
            refine GE_slots (L' := [(4, _), (12, _), (13, _), (15, _), (16, _), (32, _), (33, _), (34, _)]) ⟨rfl, rfl, rfl, rfl, rfl, rfl, rfl, rfl, trivial⟩ ?_
            refine GE_plain (.st 0 (.st 1 (.st 2 (.st 3 (.st 4 (.st 5 (.st 6 (.st 7 (.ld 8 [] (.ld 9 [] (.ld 10 [] .nil))))))))))) rfl ?_
            refine GT_st rfl rfl rfl rfl (V_move rfl rfl) ?_
            refine GT_st rfl rfl rfl rfl (V_move rfl rfl) ?_
            first | refine GT_st rfl rfl rfl rfl (V_nilCheck rfl rfl) ?_ | refine GT_st rfl rfl rfl rfl (V_nilCheck_func rfl rfl) ?_ | refine GT_st rfl rfl rfl rfl (V_nilCheck_yield rfl rfl) ?_
            first | refine GT_st rfl rfl rfl rfl (V_field rfl rfl fo_101_1) ?_ | refine GT_st rfl rfl rfl rfl (V_fieldA rfl rfl fo_101_1) ?_
            refine GT_st rfl rfl rfl rfl (V_load rfl rfl ag_42 (CellAt.item rfl)) ?_
            refine GT_st rfl rfl rfl rfl (V_move rfl rfl) ?_
            refine GT_st rfl rfl rfl rfl (V_index rfl rfl rfl Try.underlying42 sz_2 (k := k) rfl hkl (hO3.isSome (k := k) (by rw [serS_len]; exact hkl))) ?_
            refine GT_st rfl rfl rfl rfl (V_load rfl rfl ag_2 (CellAt.own0 hO3 eI_len (by rw [serS_len]; exact hkl) (by rw [serS_get hkl]; rfl))) ?_
            refine GT_buildSlice (z := [_]) rfl rfl rfl rfl rfl Try.underlying42 zc_2 sz_2 (by decide) rfl rfl (fun _ => GR_nil) (fun b52 => ?_)
            refine GT_append (enc := eI) (m := [(d.getD k default).ser]) rfl rfl rfl rfl rfl rfl rfl hO (fun w m => RdL.own' m eI_len) Try.underlying42 zc_2 sz_2 ⟨rfl, by decide⟩ by_2 ⟨by simp only [List.length_singleton]; omega, by simp only [List.length_singleton]; omega⟩ eI_len eI_one (fun _ _ _ _ => GR_nil) (fun A2' c2' I2' hO2 => ?_)
            refine GT_ldv rfl rfl rfl rfl rfl (V_assign rfl rfl) (GR_nil) ?_
            refine GT_nil ?_
            refine GE_inBlock ?_
            refine GE_slots (L' := [(4, _), (12, _), (13, _), (15, _), (32, _), (33, _), (34, _)]) ⟨rfl, rfl, rfl, rfl, rfl, rfl, rfl, trivial⟩ ?_
            refine GE_plain (.st 0 (.ld 1 [] .nil)) rfl ?_
            refine GT_st rfl rfl rfl rfl (V_add rfl rfl rfl (wrap_i64 (by omega))) ?_
            refine GT_ldv rfl rfl rfl rfl rfl (V_move rfl rfl) (GR_nil) ?_
            refine GT_nil ?_
            first
              | (rw [e1] at hO2 ⊢; exact GE_to (ih (k + 1, A2', c2', I2') ⟨by dsimp only; omega, hO2⟩ (by dsimp only; omega)) ⟨rfl, rfl, rfl, rfl, rfl, rfl, rfl, trivial⟩ (HS.chunk (HS.cons rfl (HS.chunk HS.last))))
              | (have hO2 := hO; rw [← e1] at hO2 ⊢; exact GE_to (ih (k + 1, A', c', I') ⟨by dsimp only; omega, hO2⟩ (by dsimp only; omega)) ⟨rfl, rfl, rfl, rfl, rfl, rfl, rfl, trivial⟩ (HS.chunk (HS.cons rfl (HS.chunk HS.last))))
          · have e1 : pickTo d (possB (l.map SusA.x)) (k + 1) = pickTo d (possB (l.map SusA.x)) k := (by first | rw [pickTo_succ, h3, if_neg (by decide), List.append_nil] | (have hq : ¬ possB (l.map SusA.x) k = true := (fun q => h3 (of_decide_eq_true (by rw [hBk] at q; exact q))); rw [pickTo_succ, if_neg hq, List.append_nil]))
            refine GE_skip ?_
            refine GE_inBlock ?_
            refine GE_slots (L' := [(4, _), (12, _), (13, _), (15, _), (32, _), (33, _), (34, _)]) ⟨rfl, rfl, rfl, rfl, rfl, rfl, rfl, trivial⟩ ?_
            refine GE_plain (.st 0 (.ld 1 [] .nil)) rfl ?_
            refine GT_st rfl rfl rfl rfl (V_add rfl rfl rfl (wrap_i64 (by omega))) ?_
            refine GT_ldv rfl rfl rfl rfl rfl (V_move rfl rfl) (GR_nil) ?_
            refine GT_nil ?_
            first
              | (rw [e1] at hO2 ⊢; exact GE_to (ih (k + 1, A2', c2', I2') ⟨by dsimp only; omega, hO2⟩ (by dsimp only; omega)) ⟨rfl, rfl, rfl, rfl, rfl, rfl, rfl, trivial⟩ (HS.chunk (HS.cons rfl (HS.chunk HS.last))))
              | (have hO2 := hO; rw [← e1] at hO2 ⊢; exact GE_to (ih (k + 1, A', c', I') ⟨by dsimp only; omega, hO2⟩ (by dsimp only; omega)) ⟨rfl, rfl, rfl, rfl, rfl, rfl, rfl, trivial⟩ (HS.chunk (HS.cons rfl (HS.chunk HS.last))))
        · obtain rfl : k = d.length := (by omega)
          refine GE_exit rfl ?_
          refine GE_seq ?_
          refine GE_slots (L' := [(15, _)]) ⟨rfl, trivial⟩ ?_
          refine GE_plain (.st 0 (.st 1 (.st 2 .nil))) rfl ?_
          refine GT_st rfl rfl rfl rfl (V_move rfl rfl) ?_
          refine GT_st rfl rfl rfl rfl (V_assign rfl rfl) ?_
          refine GT_st rfl rfl rfl rfl (V_assign rfl rfl) ?_
          refine GT_nil ?_
          refine GE_ret Try.func54 ⟨_, _, rfl, rfl, rfl⟩ (fun w hw => ?_)
          have e2 : pickTo d (possB (l.map SusA.x)) d.length = possL p d side h := (by rw [hcl, ← hL.eq]; rfl); rw [e2] at hO ⊢; rw [he]; exact ⟨(A', c', I'), hO, rfl, hw.chunk⟩
      · exact ⟨Nat.zero_le _, Own.nil⟩
  · have hcl : possL p d side h = [] := if_neg he
    refine Ret_of (vs := [_, _, _, _, _]) hm none' Try.func54 rfl Try.ntmps54 rfl ?_
    dsimp only [slotsOf]
    refine GE_seq ?_
    refine GE_plain (.st 0 (.st 1 .nil)) rfl ?_
    refine GT_st rfl rfl rfl rfl (V_assign rfl rfl) ?_
    refine GT_st rfl rfl rfl rfl (V_assign rfl rfl) ?_
    refine GT_nil ?_
    refine GE_seq ?_
    refine GE_plain (.st 0 (.st 1 (.st 2 (.st 3 (.ld 4 [] (.st 5 (.st 6 (.st 7 (.st 8 (.st 9 (.st 10 (.st 11 .nil)))))))))))) rfl ?_
    refine GT_st rfl rfl rfl rfl (V_move rfl rfl) ?_
    refine GT_st rfl rfl rfl rfl (V_move rfl rfl) ?_
    refine GT_st rfl rfl rfl rfl (V_move rfl rfl) ?_
    refine GT_st rfl rfl rfl rfl (V_move rfl rfl) ?_
    refine GT_call0 rfl rfl rfl rfl rfl rfl rfl rfl rn_46 (fun w hw => C_left_err (hp.sh hw) hwf (hd.sh hw) hdf (hh.sh hw) he) (GR_nil) ?_
    refine GT_st rfl rfl rfl rfl (V_move rfl rfl) ?_
    refine GT_st rfl rfl rfl rfl (V_extract rfl rfl rfl) ?_
    refine GT_st rfl rfl rfl rfl (V_extract rfl rfl rfl) ?_
    refine GT_st rfl rfl rfl rfl (V_extract rfl rfl rfl) ?_
    refine GT_st rfl rfl rfl rfl (V_assign rfl rfl) ?_
    refine GT_st rfl rfl rfl rfl (V_assign rfl rfl) ?_
    refine GT_st rfl rfl rfl rfl (V_assign rfl rfl) ?_
    refine GT_nil ?_
    refine GE_seq ?_
    refine GE_seq ?_
    refine GE_slots (L' := [(4, _), (12, _), (13, _), (14, _)]) ⟨rfl, rfl, rfl, rfl, trivial⟩ ?_
    refine GE_plain (.st 0 (.st 1 .nil)) rfl ?_
    refine GT_st rfl rfl rfl rfl (V_move rfl rfl) ?_
    refine GT_st rfl rfl rfl rfl (V_neq rfl rfl rfl) ?_
    refine GT_nil ?_
    first | refine GE_condNot rfl (fun h1 => ?_) (fun h1 => ?_) | refine GE_cond rfl (fun h1 => ?_) (fun h1 => ?_) | refine GE_condNotB rfl (fun h1 => ?_) (fun h1 => ?_) | refine GE_condB rfl (fun h1 => ?_) (fun h1 => ?_)
    · skip
      refine GE_seq ?_
      refine GE_slots (L' := [(14, _)]) ⟨rfl, trivial⟩ ?_
      refine GE_plain (.st 0 (.st 1 (.st 2 .nil))) rfl ?_
      refine GT_st rfl rfl rfl rfl (V_move rfl rfl) ?_
      refine GT_st rfl rfl rfl rfl (V_assign rfl rfl) ?_
      refine GT_st rfl rfl rfl rfl (V_assign rfl rfl) ?_
      refine GT_nil ?_
      refine GE_ret Try.func54 ⟨_, _, rfl, rfl, rfl⟩ (fun w hw => ?_)
      rw [hcl]; exact ⟨(none, 0, []), Own.nil, rfl, hw.nil⟩
    · exact absurd h1 he
theorem C_Possible (hp : RdL w 7 ePlt A p) (hwf : ∀ x ∈ p, Plt.wf x) (hd : RdL w 7 eDsc A2 d) (hdf : ∀ x ∈ d, Dsc.wf x) (hh : RdL w 2 eHrg A5 h) :
    Con Try.prog 31 [.slice A p.length c, .slice A2 d.length c2, I side, .slice A5 h.length c5] w (fun y : Option Addr × Nat × Items => Own 1 2 eI (possL p d side h) (.slice y.1 (possL p d side h).length y.2.1) y.2.2)
      (fun y => .tuple #[.slice y.1 (possL p d side h).length y.2.1, I (hearE p d side h)]) (fun y => y.2.2) := by
  refine Ret_of (vs := [_, _, _, _]) hm none' Try.func31 rfl Try.ntmps31 rfl ?_
  dsimp only [slotsOf]
  refine GE_seq ?_
  refine GE_plain (.st 0 (.st 1 .nil)) rfl ?_
  refine GT_st rfl rfl rfl rfl (V_assign rfl rfl) ?_
  refine GT_st rfl rfl rfl rfl (V_assign rfl rfl) ?_
  refine GT_nil ?_
  refine GE_seq ?_
  refine GE_plain (.st 0 (.st 1 (.st 2 (.st 3 (.ld 4 [] (.st 5 (.st 6 (.st 7 (.st 8 .nil))))))))) rfl ?_
  refine GT_st rfl rfl rfl rfl (V_move rfl rfl) ?_
  refine GT_st rfl rfl rfl rfl (V_move rfl rfl) ?_
  refine GT_st rfl rfl rfl rfl (V_move rfl rfl) ?_
  refine GT_st rfl rfl rfl rfl (V_move rfl rfl) ?_
  refine GT_call rfl rfl rfl rfl rfl rfl rfl rfl rn_54 (fun w hw => C_filter_poss (hp.sh hw) hwf (hd.sh hw) hdf (hh.sh hw)) (fun _ _ => GR_nil) (fun y hy => ?_)
  refine GT_st rfl rfl rfl rfl (V_extract rfl rfl rfl) ?_
  refine GT_st rfl rfl rfl rfl (V_extract rfl rfl rfl) ?_
  refine GT_st rfl rfl rfl rfl (V_assign rfl rfl) ?_
  refine GT_st rfl rfl rfl rfl (V_assign rfl rfl) ?_
  refine GT_nil ?_
  refine GE_ret Try.func31 ⟨_, _, rfl, rfl, rfl⟩ (fun w hw => ⟨y, hy, rfl, hw.chunk⟩)
  skip

/-! the suspects -/
/-- neighbours that are equal, once -/
def cptTo (l : List Int) : Nat → List Int
  | 0 => []
  | i + 1 => if 0 < i ∧ l.getD i default = l.getD (i - 1) default then cptTo l i else cptTo l i ++ [l.getD i default]
def cpt (l : List Int) : List Int := cptTo l l.length
theorem cptTo_le (l : List Int) : ∀ i, (cptTo l i).length ≤ i
  | 0 => Nat.le_refl _
  | i + 1 => by
    have := cptTo_le l i
    rw [cptTo]; split
    · omega
    · rw [List.length_append, List.length_singleton]; omega
theorem cptTo_mem (l : List Int) (x : Int) : ∀ i, i ≤ l.length → (x ∈ cptTo l i ↔ ∃ q, q < i ∧ l.getD q default = x)
  | 0, _ => by simp [cptTo]
  | i + 1, hi => by
    have ih := cptTo_mem l x i (by omega)
    rw [cptTo]
    split
    · rename_i hc
      rw [ih]
      constructor
      · rintro ⟨q, hq, e⟩; exact ⟨q, by omega, e⟩
      · rintro ⟨q, hq, e⟩
        rcases Nat.lt_or_ge q i with h | h
        · exact ⟨q, h, e⟩
        · exact ⟨i - 1, by omega, by rw [← hc.2, ← e]; congr 1; omega⟩
    · rw [List.mem_append, List.mem_singleton, ih]
      constructor
      · rintro (⟨q, hq, e⟩ | e)
        · exact ⟨q, by omega, e⟩
        · exact ⟨i, by omega, e.symm⟩
      · rintro ⟨q, hq, e⟩
        rcases Nat.lt_or_ge q i with h | h
        · exact .inl ⟨q, h, e⟩
        · right; rw [← e]; congr 1; omega
theorem cpt_mem {l : List Int} {x : Int} : x ∈ cpt l ↔ x ∈ l := by
  unfold cpt
  rw [cptTo_mem l x _ (Nat.le_refl _)]
  constructor
  · rintro ⟨q, hq, rfl⟩; simp [List.getD, hq]
  · intro h
    obtain ⟨i, hi, rfl⟩ := List.getElem_of_mem h
    exact ⟨i, hi, by simp [List.getD, hi]⟩
theorem cptTo_diff {l : List Int} : ∀ k, k ≤ l.length → (∀ i, 0 < i → i < k → l.getD i default ≠ l.getD (i - 1) default) → cptTo l k = l.take k
  | 0, _, _ => by simp [cptTo]
  | k + 1, hk, h => by
    rw [cptTo, if_neg (fun q => h k q.1 (by omega) q.2), cptTo_diff k (by omega) (fun i h1 h2 => h i h1 (by omega)), List.take_succ_eq_append_getElem (show k < l.length by omega)]
    simp [List.getD, show k < l.length by omega]
set_option maxRecDepth 10000 in
theorem C_Compact {l : List Int} {A : Option Addr} {c : Nat} {I0 : Items} {w w0 : World} {H H1 : Items} [hch : HChunk I0 H H1] (m : SH w0 none' H w) (hO : Own 1 3 eI l (.slice A l.length c) I0) (hl : l.length ≤ 1000000) :
    Ret Try.prog 57 [.slice A l.length c].toArray w fun v w' => ∃ I', Own 1 3 eI (cpt l) (.slice A (cpt l).length c) I' ∧ v = .slice A (cpt l).length c ∧ SH w0 none' (I' ++ H1) w' := by
  have m' := m.perm hch.perm
  have hcap : l.length ≤ c := (by obtain ⟨A', c', e, h⟩ := hO.form; cases e; exact h)
  refine Ret_ofH (vs := [_]) hm none' Try.func57 rfl Try.ntmps57 rfl m' ?_
  dsimp only [slotsOf]
  refine GE_seq ?_
  refine GE_plain (.st 0 .nil) rfl ?_
  refine GT_st rfl rfl rfl rfl (V_assign rfl rfl) ?_
  refine GT_nil ?_
  refine GE_seq ?_
  refine GE_seq ?_
  refine GE_plain (.st 0 (.st 1 (.st 2 .nil))) rfl ?_
  refine GT_st rfl rfl rfl rfl (V_move rfl rfl) ?_
  refine GT_st rfl rfl rfl rfl (V_len rfl Try.underlying66 rfl) ?_
  refine GT_st rfl rfl rfl rfl (V_lss rfl rfl rfl) ?_
  refine GT_nil ?_
  first | refine GE_condNot rfl (fun h1 => ?_) (fun h1 => ?_) | refine GE_cond rfl (fun h1 => ?_) (fun h1 => ?_) | refine GE_condNotB rfl (fun h1 => ?_) (fun h1 => ?_) | refine GE_condB rfl (fun h1 => ?_) (fun h1 => ?_)
  · have hc : cpt l = l := (by unfold cpt; rw [cptTo_diff _ (Nat.le_refl _) (fun i h1 h2 => by omega), List.take_length])
    refine GE_seq ?_
    refine GE_slots (L' := [(0, _)]) ⟨rfl, trivial⟩ ?_
    refine GE_plain (.st 0 (.st 1 .nil)) rfl ?_
    refine GT_st rfl rfl rfl rfl (V_move rfl rfl) ?_
    refine GT_st rfl rfl rfl rfl (V_assign rfl rfl) ?_
    refine GT_nil ?_
    refine GE_ret Try.func57 rfl (fun w hw => ?_)
    exact ⟨I0, by rw [hc]; exact hO, by rw [hc], hw⟩
  · skip
    refine GE_skip ?_
    refine GE_seq ?_
    refine GE_seq ?_
    refine GE_slots (L' := [(0, _)]) ⟨rfl, trivial⟩ ?_
    refine GE_plain (.st 0 .nil) rfl ?_
    refine GT_st rfl rfl rfl rfl (V_assign rfl rfl) ?_
    refine GT_nil ?_
    refine GE_block ?_
    refine GE_to (GE_loop (ι := Nat) (fun k => l.length - k) (fun k => [(0, .slice A l.length c), (3, I k)]) (fun k => I0 ++ H1) (fun k => 1 ≤ k ∧ k ≤ l.length ∧ ∀ i, 0 < i → i < k → l.getD i default ≠ l.getD (i - 1) default) ?_ 1 ?_) ⟨rfl, rfl, trivial⟩ HS.all
    · rintro k ⟨hk1, hk, hdi⟩ ih
      refine GE_seq ?_
      refine GE_seq ?_
      refine GE_plain (.st 0 (.st 1 (.st 2 (.st 3 .nil)))) rfl ?_
      refine GT_st rfl rfl rfl rfl (V_move rfl rfl) ?_
      refine GT_st rfl rfl rfl rfl (V_move rfl rfl) ?_
      refine GT_st rfl rfl rfl rfl (V_len rfl Try.underlying66 rfl) ?_
      refine GT_st rfl rfl rfl rfl (V_lss rfl rfl rfl) ?_
      refine GT_nil ?_
      first | refine GE_condNot rfl (fun h2 => ?_) (fun h2 => ?_) | refine GE_cond rfl (fun h2 => ?_) (fun h2 => ?_) | refine GE_condNotB rfl (fun h2 => ?_) (fun h2 => ?_) | refine GE_condB rfl (fun h2 => ?_) (fun h2 => ?_)
      · have hkl : k < l.length := (by omega)
        refine GE_skip ?_
        refine GE_seq ?_
        refine GE_block ?_
        refine GE_seq ?_
        refine GE_slots (L' := [(0, _), (3, _)]) ⟨rfl, rfl, trivial⟩ ?_
        refine GE_drawn (.st 0 (.st 1 (.st 2 (.st 3 (.st 4 (.st 5 (.st 6 (.st 7 (.st 8 (.st 9 .nil)))))))))) [] (by decide +kernel) ?_
        refine GT_st rfl rfl rfl rfl (V_move rfl rfl) ?_
        refine GT_st rfl rfl rfl rfl (V_move rfl rfl) ?_
        refine GT_st rfl rfl rfl rfl (V_index rfl rfl rfl Try.underlying66 sz_3 (k := k) rfl hkl (hO.isSome (k := k) hkl)) ?_
        refine GT_st rfl rfl rfl rfl (V_load rfl rfl ag_3 (CellAt.own0 hO eI_len hkl rfl)) ?_
        refine GT_st rfl rfl rfl rfl (V_move rfl rfl) ?_
        refine GT_st rfl rfl rfl rfl (V_move rfl rfl) ?_
        refine GT_st rfl rfl rfl rfl (V_sub rfl rfl rfl (wrap_i64 (by omega))) ?_
        refine GT_st rfl rfl rfl rfl (V_index rfl rfl rfl Try.underlying66 sz_3 (k := k - 1) (by omega) (by omega) (hO.isSome (k := k) hkl)) ?_
        refine GT_st rfl rfl rfl rfl (V_load rfl rfl ag_3 (CellAt.own0 hO eI_len (by omega) rfl)) ?_
        refine GT_st rfl rfl rfl rfl (V_eql rfl rfl rfl) ?_
        refine GT_nil ?_
        first | refine GE_condNot rfl (fun h3 => ?_) (fun h3 => ?_) | refine GE_cond rfl (fun h3 => ?_) (fun h3 => ?_) | refine GE_condNotB rfl (fun h3 => ?_) (fun h3 => ?_) | refine GE_condB rfl (fun h3 => ?_) (fun h3 => ?_)
        · have hc0 : cptTo l (k + 1) = l.take k := (by rw [cptTo, if_pos ⟨by omega, h3⟩, cptTo_diff k (by omega) hdi])
          refine GE_seq ?_
          refine GE_slots (L' := [(0, _), (3, _)]) ⟨rfl, rfl, trivial⟩ ?_
          refine GE_plain (.st 0 (.st 1 (.st 2 (.st 3 .nil)))) rfl ?_
          refine GT_st rfl rfl rfl rfl (V_move rfl rfl) ?_
          refine GT_st rfl rfl rfl rfl (V_move rfl rfl) ?_
          refine GT_st rfl rfl rfl rfl (V_sliceFrom rfl rfl rfl Try.underlying66 sz_3 (lo := k) (by omega)) ?_
          refine GT_st rfl rfl rfl rfl (V_assign rfl rfl) ?_
          refine GT_nil ?_
          refine GE_seq ?_
          refine GE_seq ?_
          refine GE_plain (.st 0 .nil) rfl ?_
          refine GT_st rfl rfl rfl rfl (V_assign rfl rfl) ?_
          refine GT_nil ?_
          refine GE_block ?_
          refine GE_to (GE_loop (ι := Nat × List Int × Items) (fun x => l.length - (k + x.1)) (fun x => [(0, .slice A l.length c), (3, I (cptTo l (k + x.1)).length), (4, .slice (slA c k 1 A) (l.length - k) (c - k)), (5, I x.1)]) (fun x => x.2.2 ++ H1) (fun x => 1 ≤ x.1 ∧ k + x.1 ≤ l.length ∧ x.2.1.length = l.length ∧ x.2.1.take (cptTo l (k + x.1)).length = cptTo l (k + x.1) ∧ (cptTo l (k + x.1)).length < k + x.1 ∧ (∀ i, (cptTo l (k + x.1)).length ≤ i → x.2.1.getD i default = l.getD i default) ∧ Own 1 3 eI x.2.1 (.slice A l.length c) x.2.2) ?_ (1, l, I0) ?_) ⟨rfl, lookI rfl (by dsimp only; rw [hc0, List.length_take]; omega), rfl, rfl, trivial⟩ HS.all
          · rintro ⟨j, o, I1⟩ ⟨hj1, hj, hol, hot, hlt, hoi, hO1⟩ ih2; dsimp only at hj1 hj hol hot hlt hoi hO1 ih2 ⊢
            refine GE_seq ?_
            refine GE_seq ?_
            refine GE_plain (.st 0 (.st 1 (.st 2 (.st 3 .nil)))) rfl ?_
            refine GT_st rfl rfl rfl rfl (V_move rfl rfl) ?_
            refine GT_st rfl rfl rfl rfl (V_move rfl rfl) ?_
            refine GT_st rfl rfl rfl rfl (V_len rfl Try.underlying66 rfl) ?_
            refine GT_st rfl rfl rfl rfl (V_lss rfl rfl rfl) ?_
            refine GT_nil ?_
            first | refine GE_condNot rfl (fun h4 => ?_) (fun h4 => ?_) | refine GE_cond rfl (fun h4 => ?_) (fun h4 => ?_) | refine GE_condNotB rfl (fun h4 => ?_) (fun h4 => ?_) | refine GE_condB rfl (fun h4 => ?_) (fun h4 => ?_)
            · have hjl : k + j < l.length := (by omega); have hdr : ∀ q, k + q < l.length → (cptTo l (k + j)).length ≤ k + q → (o.drop k).getD q default = l.getD (k + q) default := (fun q hq hq2 => by rw [← hoi _ hq2]; simp [List.getD]); have hsA : (slA c k 1 A).isSome = true := (by have := hO.isSome (k := k) hkl; unfold slA; split <;> simp [this]); have hrd : ∀ w, SH w0 none' (I1 ++ H1) w → RdL w 1 eI (slA c k 1 A) (o.drop k) := (fun w m => (hO1.rdH eI_len m).drop k (by omega))
              refine GE_skip ?_
              refine GE_seq ?_
              refine GE_block ?_
              refine GE_seq ?_
              refine GE_slots (L' := [(0, _), (3, _), (4, _), (5, _)]) ⟨rfl, rfl, rfl, rfl, trivial⟩ ?_
              refine GE_drawn (.st 0 (.st 1 (.st 2 (.st 3 (.st 4 (.st 5 (.st 6 (.st 7 (.st 8 (.st 9 .nil)))))))))) [] (by decide +kernel) ?_
              refine GT_st rfl rfl rfl rfl (V_move rfl rfl) ?_
              refine GT_st rfl rfl rfl rfl (V_move rfl rfl) ?_
              refine GT_st rfl rfl rfl rfl (V_index rfl rfl rfl Try.underlying66 sz_3 (k := j) rfl (by omega) hsA) ?_
              refine GT_st rfl rfl rfl rfl (V_load rfl rfl ag_3 (CellAt.rdH0 hrd (by rw [List.length_drop]; omega) (by rw [hdr j hjl (by omega)]; rfl))) ?_
              refine GT_st rfl rfl rfl rfl (V_move rfl rfl) ?_
              refine GT_st rfl rfl rfl rfl (V_move rfl rfl) ?_
              refine GT_st rfl rfl rfl rfl (V_sub rfl rfl rfl (wrap_i64 (by omega))) ?_
              refine GT_st rfl rfl rfl rfl (V_index rfl rfl rfl Try.underlying66 sz_3 (k := j - 1) (by omega) (by omega) hsA) ?_
              refine GT_st rfl rfl rfl rfl (V_load rfl rfl ag_3 (CellAt.rdH0 hrd (by rw [List.length_drop]; omega) (by rw [hdr (j - 1) (by omega) (by omega)]; rfl))) ?_
              refine GT_st rfl rfl rfl rfl (V_neq rfl rfl rfl) ?_
              refine GT_nil ?_
              first | refine GE_condNot rfl (fun h5 => ?_) (fun h5 => ?_) | refine GE_cond rfl (fun h5 => ?_) (fun h5 => ?_) | refine GE_condNotB rfl (fun h5 => ?_) (fun h5 => ?_) | refine GE_condB rfl (fun h5 => ?_) (fun h5 => ?_)
              · have hcs : cptTo l (k + j + 1) = cptTo l (k + j) ++ [l.getD (k + j) default] := (by rw [cptTo, if_neg (fun q => h5 (by rw [q.2]; congr 1; omega))])
                refine GE_seq ?_
                refine GE_slots (L' := [(0, _), (3, _), (4, _), (5, _)]) ⟨rfl, rfl, rfl, rfl, trivial⟩ ?_
                refine GE_plain (.st 0 (.st 1 (.st 2 (.st 3 (.st 4 (.st 5 (.st 6 (.ld 7 [] .nil)))))))) rfl ?_
                refine GT_st rfl rfl rfl rfl (V_move rfl rfl) ?_
                refine GT_st rfl rfl rfl rfl (V_move rfl rfl) ?_
                refine GT_st rfl rfl rfl rfl (V_move rfl rfl) ?_
                refine GT_st rfl rfl rfl rfl (V_move rfl rfl) ?_
                refine GT_st rfl rfl rfl rfl (V_index rfl rfl rfl Try.underlying66 sz_3 (k := j) rfl (by omega) hsA) ?_
                refine GT_st rfl rfl rfl rfl (V_load rfl rfl ag_3 (CellAt.rdH0 hrd (by rw [List.length_drop]; omega) (by rw [hdr j hjl (by omega)]; rfl))) ?_
                refine GT_st rfl rfl rfl rfl (V_index rfl rfl rfl Try.underlying66 sz_3 (k := (cptTo l (k + j)).length) rfl (by omega) (hO.isSome (k := k) hkl)) ?_
                refine GT_storeOwn (enc := eI) (q := (cptTo l (k + j)).length) (xx := l.getD (k + j) default) rfl rfl rfl rfl rfl rfl rfl sz_3 hO1 eI_len eI_one (by omega) (by decide) (fun _ _ => GR_nil) (fun I2 hO2 => ?_)
                refine GT_nil ?_
                refine GE_slots (L' := [(0, _), (3, _), (4, _), (5, _)]) ⟨rfl, rfl, rfl, rfl, trivial⟩ ?_
                have hst : (o.set (cptTo l (k + j)).length (l.getD (k + j) default)).take (cptTo l (k + j) ++ [l.getD (k + j) default]).length = cptTo l (k + j) ++ [l.getD (k + j) default] := (by rw [List.length_append, List.length_singleton, List.take_succ_eq_append_getElem (by rw [List.length_set]; omega), List.take_set_of_le (Nat.le_refl _), hot]; simp)
                refine GE_plain (.st 0 (.st 1 (.ld 2 [] .nil))) rfl ?_
                refine GT_st rfl rfl rfl rfl (V_move rfl rfl) ?_
                refine GT_st rfl rfl rfl rfl (V_add rfl rfl rfl (wrap_i64 (by omega))) ?_
                refine GT_ldv rfl rfl rfl rfl rfl (V_assign rfl rfl) (GR_nil) ?_
                refine GT_nil ?_
                refine GE_inBlock ?_
                refine GE_plain (.st 0 (.st 1 (.ld 2 [] .nil))) rfl ?_
                refine GT_st rfl rfl rfl rfl (V_move rfl rfl) ?_
                refine GT_st rfl rfl rfl rfl (V_add rfl rfl rfl (wrap_i64 (by omega))) ?_
                refine GT_ldv rfl rfl rfl rfl rfl (V_assign rfl rfl) (GR_nil) ?_
                refine GT_nil ?_
                first
                  | exact GE_to (ih2 (j + 1, _, I2) ⟨by dsimp only; omega, by dsimp only; omega, by simpa using hol, by dsimp only; rw [← Nat.add_assoc, hcs]; exact hst, by dsimp only; rw [← Nat.add_assoc, hcs, List.length_append, List.length_singleton]; omega, (fun i hi => by dsimp only at hi ⊢; rw [← Nat.add_assoc, hcs, List.length_append, List.length_singleton] at hi; rw [getD_set (by omega), if_neg (by omega)]; exact hoi i (by omega)), hO2⟩ (by dsimp only; omega)) ⟨rfl, lookI rfl (by rw [← Nat.add_assoc, hcs, List.length_append, List.length_singleton]; push_cast; rfl), rfl, rfl, trivial⟩ HS.all
                  | exact GE_to (ih2 (j + 1, o, I1) ⟨by dsimp only; omega, by dsimp only; omega, hol, by dsimp only; rw [← Nat.add_assoc, hcs]; exact hot, by dsimp only; rw [← Nat.add_assoc, hcs]; omega, (fun i hi => by dsimp only at hi ⊢; rw [← Nat.add_assoc, hcs] at hi; exact hoi i hi), hO1⟩ (by dsimp only; omega)) ⟨rfl, lookI rfl (by rw [← Nat.add_assoc, hcs]), rfl, rfl, trivial⟩ HS.all
              · have hcs : cptTo l (k + j + 1) = cptTo l (k + j) := (by rw [cptTo, if_pos ⟨by omega, by rw [h5]; congr 1; omega⟩])
                refine GE_skip ?_
                refine GE_inBlock ?_
                refine GE_slots (L' := [(0, _), (3, _), (4, _), (5, _)]) ⟨rfl, rfl, rfl, rfl, trivial⟩ ?_
                refine GE_plain (.st 0 (.st 1 (.ld 2 [] .nil))) rfl ?_
                refine GT_st rfl rfl rfl rfl (V_move rfl rfl) ?_
                refine GT_st rfl rfl rfl rfl (V_add rfl rfl rfl (wrap_i64 (by omega))) ?_
                refine GT_ldv rfl rfl rfl rfl rfl (V_assign rfl rfl) (GR_nil) ?_
                refine GT_nil ?_
                first
                  | exact GE_to (ih2 (j + 1, _, I2) ⟨by dsimp only; omega, by dsimp only; omega, by simpa using hol, by dsimp only; rw [← Nat.add_assoc, hcs]; exact hst, by dsimp only; rw [← Nat.add_assoc, hcs, List.length_append, List.length_singleton]; omega, (fun i hi => by dsimp only at hi ⊢; rw [← Nat.add_assoc, hcs, List.length_append, List.length_singleton] at hi; rw [getD_set (by omega), if_neg (by omega)]; exact hoi i (by omega)), hO2⟩ (by dsimp only; omega)) ⟨rfl, lookI rfl (by rw [← Nat.add_assoc, hcs, List.length_append, List.length_singleton]; push_cast; rfl), rfl, rfl, trivial⟩ HS.all
                  | exact GE_to (ih2 (j + 1, o, I1) ⟨by dsimp only; omega, by dsimp only; omega, hol, by dsimp only; rw [← Nat.add_assoc, hcs]; exact hot, by dsimp only; rw [← Nat.add_assoc, hcs]; omega, (fun i hi => by dsimp only at hi ⊢; rw [← Nat.add_assoc, hcs] at hi; exact hoi i hi), hO1⟩ (by dsimp only; omega)) ⟨rfl, lookI rfl (by rw [← Nat.add_assoc, hcs]), rfl, rfl, trivial⟩ HS.all
            · have hkj : k + j = l.length := (by omega); rw [hkj] at hot hlt hoi; have hcc : cpt l = cptTo l l.length := rfl; rw [← hcc] at hot hlt hoi; have hcc2 : cptTo l (k + j) = cpt l := (by rw [hkj]; rfl); rw [hcc2]
              refine GE_exit rfl ?_
              refine GE_seq ?_
              refine GE_slots (L' := [(0, _), (3, _)]) ⟨rfl, rfl, trivial⟩ ?_
              refine GE_plain (.st 0 (.st 1 (.st 2 (.ld 3 [] .nil)))) rfl ?_
              refine GT_st rfl rfl rfl rfl (V_move rfl rfl) ?_
              refine GT_st rfl rfl rfl rfl (V_move rfl rfl) ?_
              refine GT_st rfl rfl rfl rfl (V_sliceFrom rfl rfl rfl Try.underlying66 sz_3 (lo := (cpt l).length) (by omega)) ?_
              refine GT_clearFrom (enc := eI) (q := (cpt l).length) (xx := 0) rfl rfl rfl rfl rfl hO1 Try.underlying66 zc_3 eI_len rfl rfl (by omega) (fun _ _ => GR_nil) (fun I2 hO2 => ?_)
              refine GT_nil ?_
              refine GE_seq ?_
              refine GE_plain (.st 0 (.st 1 (.st 2 (.st 3 .nil)))) rfl ?_
              refine GT_st rfl rfl rfl rfl (V_move rfl rfl) ?_
              refine GT_st rfl rfl rfl rfl (V_move rfl rfl) ?_
              refine GT_st rfl rfl rfl rfl (V_sliceTo rfl rfl rfl Try.underlying66 (by rw [sz_3]; rfl) (h := (cpt l).length) (by omega)) ?_
              refine GT_st rfl rfl rfl rfl (V_assign rfl rfl) ?_
              refine GT_nil ?_
              refine GE_ret Try.func57 rfl (fun w hw => ?_)
              have hlen : (o.take (cpt l).length ++ List.replicate (o.length - (cpt l).length) (0 : Int)).length = l.length := (by rw [List.length_append, List.length_take, List.length_replicate]; omega); rw [← hlen] at hO2; have hO3 := hO2.pre eI_len (by omega); rw [hot] at hO3; exact ⟨I2, hO3, rfl, hw⟩
          · exact ⟨Nat.le_refl _, by dsimp only; omega, rfl, by dsimp only; rw [hc0, List.length_take, Nat.min_eq_left (by omega)], by dsimp only; rw [hc0, List.length_take]; omega, fun i _ => rfl, hO⟩
        · skip
          refine GE_skip ?_
          refine GE_inBlock ?_
          refine GE_slots (L' := [(0, _), (3, _)]) ⟨rfl, rfl, trivial⟩ ?_
          refine GE_plain (.st 0 (.st 1 (.ld 2 [] .nil))) rfl ?_
          refine GT_st rfl rfl rfl rfl (V_move rfl rfl) ?_
          refine GT_st rfl rfl rfl rfl (V_add rfl rfl rfl (wrap_i64 (by omega))) ?_
          refine GT_ldv rfl rfl rfl rfl rfl (V_assign rfl rfl) (GR_nil) ?_
          refine GT_nil ?_
          exact GE_to (ih (k + 1) ⟨by omega, by omega, fun i a1 a2 => by rcases Nat.lt_or_ge i k with q | q; exact hdi i a1 q; rw [show i = k by omega]; exact h3⟩ (by omega)) ⟨rfl, rfl, trivial⟩ HS.all
      · obtain rfl : k = l.length := (by omega); have hc : cpt l = l := (by unfold cpt; rw [cptTo_diff _ (Nat.le_refl _) hdi, List.take_length])
        refine GE_exit rfl ?_
        refine GE_seq ?_
        refine GE_slots (L' := [(0, _)]) ⟨rfl, trivial⟩ ?_
        refine GE_plain (.st 0 (.st 1 .nil)) rfl ?_
        refine GT_st rfl rfl rfl rfl (V_move rfl rfl) ?_
        refine GT_st rfl rfl rfl rfl (V_assign rfl rfl) ?_
        refine GT_nil ?_
        refine GE_ret Try.func57 rfl (fun w hw => ?_)
        exact ⟨I0, by rw [hc]; exact hO, by rw [hc], hw⟩
    · exact ⟨Nat.le_refl _, by omega, fun i h1 h2 => by omega⟩
def suspL (p : List Plt) (d : List Dsc) (side : Int) (h : List Hrg) : List Int := if hearE p d side h = 0 then cpt ((leftS p d side h).map Sus.plate) else []
set_option maxRecDepth 10000 in
theorem C_Suspects (hp : RdL w 7 ePlt A p) (hwf : ∀ x ∈ p, Plt.wf x) (hd : RdL w 7 eDsc A2 d) (hdf : ∀ x ∈ d, Dsc.wf x) (hh : RdL w 2 eHrg A5 h) :
    Con Try.prog 33 [.slice A p.length c, .slice A2 d.length c2, I side, .slice A5 h.length c5] w (fun y : Option Addr × Nat × Items => Own 1 3 eI (suspL p d side h) (.slice y.1 (suspL p d side h).length y.2.1) y.2.2)
      (fun y => .tuple #[.slice y.1 (suspL p d side h).length y.2.1, I (hearE p d side h)]) (fun y => y.2.2) := by
  by_cases he : hearE p d side h = 0
  · have hR := (hearE_zero.1 he).1
    have hle := leftS_le (h := h) hR
    have hcl : suspL p d side h = cpt ((leftS p d side h).map Sus.plate) := if_pos he
    refine Ret_of (vs := [_, _, _, _]) hm none' Try.func33 rfl Try.ntmps33 rfl ?_
    dsimp only [slotsOf]
    refine GE_seq ?_
    refine GE_plain (.st 0 (.st 1 .nil)) rfl ?_
    refine GT_st rfl rfl rfl rfl (V_assign rfl rfl) ?_
    refine GT_st rfl rfl rfl rfl (V_assign rfl rfl) ?_
    refine GT_nil ?_
    refine GE_seq ?_
    refine GE_plain (.st 0 (.st 1 (.st 2 (.st 3 (.ld 4 [] (.st 5 (.st 6 (.st 7 (.st 8 (.st 9 (.st 10 (.st 11 .nil)))))))))))) rfl ?_
    refine GT_st rfl rfl rfl rfl (V_move rfl rfl) ?_
    refine GT_st rfl rfl rfl rfl (V_move rfl rfl) ?_
    refine GT_st rfl rfl rfl rfl (V_move rfl rfl) ?_
    refine GT_st rfl rfl rfl rfl (V_move rfl rfl) ?_
    refine GT_call rfl rfl rfl rfl rfl rfl rfl rfl rn_46 (fun w hw => C_left_ok (hp.sh hw) hwf (hd.sh hw) hdf (hh.sh hw) he) (fun _ _ => GR_nil) (fun y hy => ?_)
    obtain ⟨g, A3, c3, I3, A4, c4, I4, l, Al, cl, Il, Ih⟩ := y; obtain ⟨hO3, hO4, hL⟩ := hy; dsimp only [LeftY.items] at hO3 hO4 hL ⊢; have hll := hL.len
    refine GT_st rfl rfl rfl rfl (V_move rfl rfl) ?_
    refine GT_st rfl rfl rfl rfl (V_extract rfl rfl rfl) ?_
    refine GT_st rfl rfl rfl rfl (V_extract rfl rfl rfl) ?_
    refine GT_st rfl rfl rfl rfl (V_extract rfl rfl rfl) ?_
    refine GT_st rfl rfl rfl rfl (V_assign rfl rfl) ?_
    refine GT_st rfl rfl rfl rfl (V_assign rfl rfl) ?_
    refine GT_st rfl rfl rfl rfl (V_assign rfl rfl) ?_
    refine GT_nil ?_
    refine GE_seq ?_
    refine GE_slots (L' := [(11, _), (12, _)]) ⟨rfl, rfl, trivial⟩ ?_
    refine GE_plain (.st 0 .nil) rfl ?_
    refine GT_st rfl rfl rfl rfl (V_assign rfl rfl) ?_
    refine GT_nil ?_
    refine GE_seq ?_
    refine GE_seq ?_
    refine GE_plain (.st 0 (.st 1 (.st 2 .nil))) rfl ?_
    refine GT_st rfl rfl rfl rfl (V_move rfl rfl) ?_
    refine GT_st rfl rfl rfl rfl (V_len rfl Try.underlying87 rfl) ?_
    refine GT_st rfl rfl rfl rfl (V_move rfl rfl) ?_
    refine GT_nil ?_
    refine GE_block ?_
    refine GE_to (GE_loop (ι := Nat × Option Addr × Nat × Items) (fun x => l.length - x.1) (fun x => [(12, I 0), (13, .slice x.2.1 ((l.take x.1).map fun y => y.x.plate).length x.2.2.1), (25, .slice Al l.length cl), (26, I l.length), (27, I x.1)]) (fun x => x.2.2.2 ++ Il) (fun x => x.1 ≤ l.length ∧ Own 1 3 eI ((l.take x.1).map fun y => y.x.plate) (.slice x.2.1 ((l.take x.1).map fun y => y.x.plate).length x.2.2.1) x.2.2.2) ?_ (0, none, 0, []) ?_) ⟨rfl, rfl, rfl, rfl, rfl, trivial⟩ (HS.chunk (I := []) HS.last)
    · rintro ⟨k, A', c', I'⟩ ⟨hk, hO⟩ ih; dsimp only at hk hO ih ⊢
      refine GE_seq ?_
      refine GE_plain (.st 0 .nil) rfl ?_
      refine GT_st rfl rfl rfl rfl (V_lss rfl rfl rfl) ?_
      refine GT_nil ?_
      refine GE_seq ?_
      first | refine GE_condNot rfl (fun h1 => ?_) (fun h1 => ?_) | refine GE_cond rfl (fun h1 => ?_) (fun h1 => ?_) | refine GE_condNotB rfl (fun h1 => ?_) (fun h1 => ?_) | refine GE_condB rfl (fun h1 => ?_) (fun h1 => ?_)
      · have hkl : k < l.length := (by omega); have e1 : ((l.take k).map fun y => y.x.plate) ++ [(l.getD k default).x.plate] = (l.take (k + 1)).map fun y => y.x.plate := (by rw [List.take_succ_eq_append_getElem hkl, List.map_append]; simp [List.getD, hkl]); have htl : ((l.take k).map fun y => y.x.plate).length = k := (by rw [List.length_map, List.length_take]; omega)
        refine GE_skip ?_
        refine GE_seq ?_
        refine GE_block ?_
        refine GE_seq ?_
        refine GE_plain (.st 0 (.st 1 (.ld 2 [] (.ld 3 [] .nil)))) rfl ?_
        refine GT_st rfl rfl rfl rfl (V_index rfl rfl rfl Try.underlying87 sz_93 (k := k) rfl hkl (hL.own.isSome (k := k) hkl)) ?_
        refine GT_st rfl rfl rfl rfl (V_loadN (vs := [_, _, _]) rfl rfl ag_93 sz_93 rfl (CellsAt.own hL.own eSus_len hkl)) ?_
        refine GT_alloc rfl rfl rfl rfl rfl zc_93 (fun _ => GR_nil) (fun b15 => ?_)
        refine GT_store (vs := [_, _, _]) (l' := [_, _, _]) rfl rfl rfl rfl rfl rfl rfl sz_93 rfl rfl (Nat.le_of_ble_eq_true rfl) rfl (GR_nil) ?_
        refine GT_nil ?_
        refine GE_plain (.st 0 (.st 1 (.st 2 (.st 3 (.ld 4 [] (.ld 5 [] (.ld 6 [] .nil))))))) rfl ?_
        refine GT_st rfl rfl rfl rfl (V_move rfl rfl) ?_
        first | refine GT_st rfl rfl rfl rfl (V_field rfl rfl fo_93_0) ?_ | refine GT_st rfl rfl rfl rfl (V_fieldA rfl rfl fo_93_0) ?_
        first | refine GT_st rfl rfl rfl rfl (V_field rfl rfl fo_46_0) ?_ | refine GT_st rfl rfl rfl rfl (V_fieldA rfl rfl fo_46_0) ?_
        refine GT_st rfl rfl rfl rfl (V_load rfl rfl ag_3 (CellAt.item rfl)) ?_
        refine GT_buildSlice (z := [_]) rfl rfl rfl rfl rfl Try.underlying66 zc_3 sz_3 (by decide) rfl rfl (fun _ => GR_nil) (fun b35 => ?_)
        refine GT_append (enc := eI) (m := [(l.getD k default).x.plate]) rfl rfl rfl rfl rfl rfl rfl hO (fun w m => RdL.own' m eI_len) Try.underlying66 zc_3 sz_3 ⟨rfl, by decide⟩ by_3 ⟨by simp only [List.length_singleton]; omega, by simp only [List.length_singleton]; omega⟩ eI_len eI_one (fun _ _ _ _ => GR_nil) (fun A2' c2' I2' hO2 => ?_)
        refine GT_ldv rfl rfl rfl rfl rfl (V_assign rfl rfl) (GR_nil) ?_
        refine GT_nil ?_
        refine GE_inBlock ?_
        refine GE_slots (L' := [(12, _), (13, _), (25, _), (26, _), (27, _)]) ⟨rfl, rfl, rfl, rfl, rfl, trivial⟩ ?_
        refine GE_plain (.st 0 (.ld 1 [] .nil)) rfl ?_
        refine GT_st rfl rfl rfl rfl (V_add rfl rfl rfl (wrap_i64 (by omega))) ?_
        refine GT_ldv rfl rfl rfl rfl rfl (V_move rfl rfl) (GR_nil) ?_
        refine GT_nil ?_
        rw [e1] at hO2 ⊢; exact GE_to (ih (k + 1, A2', c2', I2') ⟨by dsimp only; omega, hO2⟩ (by dsimp only; omega)) ⟨rfl, rfl, rfl, rfl, rfl, trivial⟩ (HS.chunk HS.last)
      · obtain rfl : k = l.length := (by omega); rw [List.take_length] at hO ⊢
        refine GE_exit rfl ?_
        refine GE_seq ?_
        refine GE_slots (L' := [(12, _), (13, _)]) ⟨rfl, rfl, trivial⟩ ?_
        refine GE_plain (.st 0 (.ld 1 [] (.st 2 (.st 3 (.st 4 .nil))))) rfl ?_
        refine GT_st rfl rfl rfl rfl (V_move rfl rfl) ?_
        refine GT_callX rfl rfl rfl rfl rfl rfl rfl rfl rn_57 (fun w m => C_Compact m hO (by rw [List.length_map]; omega)) (fun _ _ => GR_nil) (fun I6 hO6 => ?_)
        refine GT_st rfl rfl rfl rfl (V_move rfl rfl) ?_
        refine GT_st rfl rfl rfl rfl (V_assign rfl rfl) ?_
        refine GT_st rfl rfl rfl rfl (V_assign rfl rfl) ?_
        refine GT_nil ?_
        refine GE_ret Try.func33 ⟨_, _, rfl, rfl, rfl⟩ (fun w hw => ?_)
        have e2 : cpt (l.map fun y => y.x.plate) = suspL p d side h := (by rw [hcl, ← hL.eq, List.map_map]; rfl); rw [e2] at hO6 ⊢; rw [he]; exact ⟨(A', c', I6), hO6, rfl, hw.chunk⟩
    · exact ⟨Nat.zero_le _, Own.nil⟩
  · have hcl : suspL p d side h = [] := if_neg he
    refine Ret_of (vs := [_, _, _, _]) hm none' Try.func33 rfl Try.ntmps33 rfl ?_
    dsimp only [slotsOf]
    refine GE_seq ?_
    refine GE_plain (.st 0 (.st 1 .nil)) rfl ?_
    refine GT_st rfl rfl rfl rfl (V_assign rfl rfl) ?_
    refine GT_st rfl rfl rfl rfl (V_assign rfl rfl) ?_
    refine GT_nil ?_
    refine GE_seq ?_
    refine GE_plain (.st 0 (.st 1 (.st 2 (.st 3 (.ld 4 [] (.st 5 (.st 6 (.st 7 (.st 8 (.st 9 (.st 10 (.st 11 .nil)))))))))))) rfl ?_
    refine GT_st rfl rfl rfl rfl (V_move rfl rfl) ?_
    refine GT_st rfl rfl rfl rfl (V_move rfl rfl) ?_
    refine GT_st rfl rfl rfl rfl (V_move rfl rfl) ?_
    refine GT_st rfl rfl rfl rfl (V_move rfl rfl) ?_
    refine GT_call0 rfl rfl rfl rfl rfl rfl rfl rfl rn_46 (fun w hw => C_left_err (hp.sh hw) hwf (hd.sh hw) hdf (hh.sh hw) he) (GR_nil) ?_
    refine GT_st rfl rfl rfl rfl (V_move rfl rfl) ?_
    refine GT_st rfl rfl rfl rfl (V_extract rfl rfl rfl) ?_
    refine GT_st rfl rfl rfl rfl (V_extract rfl rfl rfl) ?_
    refine GT_st rfl rfl rfl rfl (V_extract rfl rfl rfl) ?_
    refine GT_st rfl rfl rfl rfl (V_assign rfl rfl) ?_
    refine GT_st rfl rfl rfl rfl (V_assign rfl rfl) ?_
    refine GT_st rfl rfl rfl rfl (V_assign rfl rfl) ?_
    refine GT_nil ?_
    refine GE_seq ?_
    refine GE_slots (L' := [(11, _), (12, _)]) ⟨rfl, rfl, trivial⟩ ?_
    refine GE_plain (.st 0 .nil) rfl ?_
    refine GT_st rfl rfl rfl rfl (V_assign rfl rfl) ?_
    refine GT_nil ?_
    refine GE_seq ?_
    refine GE_seq ?_
    refine GE_plain (.st 0 (.st 1 (.st 2 .nil))) rfl ?_
    refine GT_st rfl rfl rfl rfl (V_move rfl rfl) ?_
    refine GT_st rfl rfl rfl rfl (V_len rfl Try.underlying87 rfl) ?_
    refine GT_st rfl rfl rfl rfl (V_move rfl rfl) ?_
    refine GT_nil ?_
    refine GE_block ?_
    refine GE_to (GE_loop (ι := Nat) (fun k => 0) (fun k => [(12, I (hearE p d side h)), (13, .slice none 0 0), (25, .slice none 0 0), (26, I 0), (27, I 0)]) (fun k => []) (fun k => k = 0) ?_ 0 ?_) ⟨rfl, rfl, rfl, rfl, rfl, trivial⟩ HS.nil
    · rintro k hk ih
      refine GE_seq ?_
      refine GE_plain (.st 0 .nil) rfl ?_
      refine GT_st rfl rfl rfl rfl (V_lss rfl rfl rfl) ?_
      refine GT_nil ?_
      refine GE_seq ?_
      first | refine GE_condNot rfl (fun h1 => ?_) (fun h1 => ?_) | refine GE_cond rfl (fun h1 => ?_) (fun h1 => ?_) | refine GE_condNotB rfl (fun h1 => ?_) (fun h1 => ?_) | refine GE_condB rfl (fun h1 => ?_) (fun h1 => ?_)
      · exact absurd h1 (by decide)
      · skip
        refine GE_exit rfl ?_
        refine GE_seq ?_
        refine GE_slots (L' := [(12, _), (13, _)]) ⟨rfl, rfl, trivial⟩ ?_
        refine GE_plain (.st 0 (.ld 1 [] (.st 2 (.st 3 (.st 4 .nil))))) rfl ?_
        refine GT_st rfl rfl rfl rfl (V_move rfl rfl) ?_
        refine GT_callX rfl rfl rfl rfl rfl rfl rfl rfl rn_57 (fun w m => C_Compact (l := []) (I0 := []) m Own.nil (by decide)) (fun _ _ => GR_nil) (fun I6 hO6 => ?_)
        refine GT_st rfl rfl rfl rfl (V_move rfl rfl) ?_
        refine GT_st rfl rfl rfl rfl (V_assign rfl rfl) ?_
        refine GT_st rfl rfl rfl rfl (V_assign rfl rfl) ?_
        refine GT_nil ?_
        refine GE_ret Try.func33 ⟨_, _, rfl, rfl, rfl⟩ (fun w hw => ?_)
        rw [hcl]; exact ⟨(none, 0, []), Own.nil, rfl, hw.nil⟩
    · exact rfl
end
end Go.Proofs.Ytfaggcmcfhljpaa
