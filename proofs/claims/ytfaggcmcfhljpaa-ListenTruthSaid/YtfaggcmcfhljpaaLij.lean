/- ListenTruth and ListenKnown, walked. -/
import Derived.Test.YtfaggcmcfhljpaaLih
namespace Go.Proofs.Ytfaggcmcfhljpaa
open Go.Sx Go.Proofs

/-- hearings that are true of x -/
def GoodH (d : List Dsc) (x : Sus) (hs : List Hrg) : Prop := ∀ z ∈ hs, ∃ i, i < d.length ∧ z = ⟨(d.getD i default).ser, x.has.getD i default⟩
theorem GoodH.nil {d : List Dsc} {x : Sus} : GoodH d x [] := fun z h => by cases h
theorem GoodH.snoc {d : List Dsc} {x : Sus} {hs : List Hrg} (h : GoodH d x hs) {i : Nat} (hi : i < d.length) : GoodH d x (hs ++ [⟨(d.getD i default).ser, x.has.getD i default⟩]) := by
  intro z hz
  rcases List.mem_append.1 hz with hz | hz
  · exact h z hz
  · exact ⟨i, hi, List.mem_singleton.1 hz⟩
theorem GoodH.agree {p : List Plt} {d : List Dsc} (hd : DsOk p d) {x : Sus} {hs : List Hrg} (h : GoodH d x hs) : ∀ y ∈ hs, agree1 d x y = true := by
  intro y hy
  obtain ⟨i, hi, rfl⟩ := h y hy
  unfold agree1
  rw [idxS_of hd hi]
  simp
theorem GoodH.known {d : List Dsc} {x : Sus} {hs : List Hrg} (h : GoodH d x hs) : ∀ y ∈ hs, known d y.ser = true := by
  intro y hy
  obtain ⟨i, hi, rfl⟩ := h y hy
  exact known_iff.2 ⟨i, hi, rfl⟩
section
variable {p : List Plt} {d : List Dsc} {h : List Hrg} {A A2 A3 A5 : Option Addr} {c c2 c3 c5 : Nat} {side : Int} {w : World}
set_option maxRecDepth 10000 in
theorem C_truth {x : Sus} {us : List Int} (hd : RdL w 7 eDsc A2 d) (hD : DsOk p d) (hdl : d.length ≤ 200) (hh : RdL w 1 eI A (hasS d x)) (hu : RdL w 1 eU8 A3 us) (hus : ∀ x ∈ us, 0 ≤ x ∧ x ≤ 255) :
    Con Try.prog 32 [.slice A2 d.length c2, .slice A (hasS d x).length c, .slice A3 us.length c3, I 40] w (fun y : List Hrg × Option Addr × Nat × Items => y.1.length ≤ 40 ∧ GoodH d x y.1 ∧ Own 2 61 eHrg y.1 (.slice y.2.1 y.1.length y.2.2.1) y.2.2.2)
      (fun y => .slice y.2.1 y.1.length y.2.2.1) (fun y => y.2.2.2) := by
  have hhl := hasS_le (d := d) (x := x)
  refine Ret_of (vs := [_, _, _, _]) hm none' Try.func32 rfl Try.ntmps32 rfl ?_
  dsimp only [slotsOf]
  refine GE_seq ?_
  refine GE_plain (.st 0 .nil) rfl ?_
  refine GT_st rfl rfl rfl rfl (V_assign rfl rfl) ?_
  refine GT_nil ?_
  refine GE_seq ?_
  refine GE_plain (.st 0 .nil) rfl ?_
  refine GT_st rfl rfl rfl rfl (V_assign rfl rfl) ?_
  refine GT_nil ?_
  refine GE_seq ?_
  refine GE_seq ?_
  refine GE_plain (.st 0 .nil) rfl ?_
  refine GT_st rfl rfl rfl rfl (V_assign rfl rfl) ?_
  refine GT_nil ?_
  refine GE_block ?_
  refine GE_to (GE_loop (ι := Nat × List Hrg × Option Addr × Nat × Items) (fun y => 40 - y.1) (fun y => [(0, .slice A2 d.length c2), (1, .slice A (hasS d x).length c), (2, .slice A3 us.length c3), (3, I 40), (9, .slice y.2.2.1 y.2.1.length y.2.2.2.1), (10, I y.1)]) (fun y => y.2.2.2.2) (fun y => y.1 ≤ 40 ∧ y.2.1.length = y.1 ∧ GoodH d x y.2.1 ∧ Own 2 61 eHrg y.2.1 (.slice y.2.2.1 y.2.1.length y.2.2.2.1) y.2.2.2.2) ?_ (0, [], none, 0, []) ?_) ⟨rfl, rfl, rfl, rfl, rfl, rfl, trivial⟩ HS.nil
  · rintro ⟨k, hs, A', c', I'⟩ ⟨hk, hkl, hg, hO⟩ ih; dsimp only at hk hkl hg hO ih ⊢
    refine GE_seq ?_
    refine GE_seq ?_
    refine GE_plain (.st 0 (.st 1 (.st 2 (.st 3 (.st 4 (.st 5 (.st 6 (.st 7 (.st 8 (.st 9 (.st 10 (.st 11 (.st 12 (.st 13 .nil)))))))))))))) rfl ?_
    refine GT_st rfl rfl rfl rfl (V_move rfl rfl) ?_
    refine GT_st rfl rfl rfl rfl (V_move rfl rfl) ?_
    refine GT_st rfl rfl rfl rfl (V_len rfl Try.underlying64 rfl) ?_
    refine GT_st rfl rfl rfl rfl (V_lss rfl rfl rfl) ?_
    refine GT_st rfl rfl rfl rfl (V_move rfl rfl) ?_
    first | refine GT_splitNot (d := 16) rfl (fun h1 => ?_) (fun h1 => ?_) | refine GT_split (d := 16) rfl (fun h1 => ?_) (fun h1 => ?_) | refine GT_splitNotB (d := 16) rfl (fun h1 => ?_) (fun h1 => ?_) | refine GT_splitB (d := 16) rfl (fun h1 => ?_) (fun h1 => ?_)
    · skip
      refine GT_st_g rfl rfl rfl rfl rfl rfl rfl (V_move rfl rfl) ?_
      refine GT_st_g rfl rfl rfl rfl rfl rfl rfl (V_move rfl rfl) ?_
      refine GT_st_g rfl rfl rfl rfl rfl rfl rfl (V_lss rfl rfl rfl) ?_
      refine GT_st rfl rfl rfl rfl (V_pick_t rfl rfl rfl) ?_
      refine GT_st rfl rfl rfl rfl (V_move rfl rfl) ?_
      first | refine GT_splitNot (d := 21) rfl (fun h2 => ?_) (fun h2 => ?_) | refine GT_split (d := 21) rfl (fun h2 => ?_) (fun h2 => ?_) | refine GT_splitNotB (d := 21) rfl (fun h2 => ?_) (fun h2 => ?_) | refine GT_splitB (d := 21) rfl (fun h2 => ?_) (fun h2 => ?_)
      · skip
        refine GT_st_g rfl rfl rfl rfl rfl rfl rfl (V_move rfl rfl) ?_
        refine GT_st_g rfl rfl rfl rfl rfl rfl rfl (V_len rfl Try.underlying37 rfl) ?_
        refine GT_st_g rfl rfl rfl rfl rfl rfl rfl (V_gtr rfl rfl rfl) ?_
        refine GT_st rfl rfl rfl rfl (V_pick_t rfl rfl rfl) ?_
        refine GT_nil ?_
        first | refine GE_condNot rfl (fun h3 => ?_) (fun h3 => ?_) | refine GE_cond rfl (fun h3 => ?_) (fun h3 => ?_) | refine GE_condNotB rfl (fun h3 => ?_) (fun h3 => ?_) | refine GE_condB rfl (fun h3 => ?_) (fun h3 => ?_)
        · have hkl2 : k < us.length := (by omega); have hux := hus (us.getD k default) (mem_getD hkl2); obtain ⟨q, hq, hql⟩ : ∃ q : Nat, (us.getD k default).tmod (d.length : Int) = q ∧ q < d.length := ⟨((us.getD k default).tmod (d.length : Int)).toNat, by have := tmod_bd (b := (d.length : Int)) hux.1 (by omega); omega, by have := tmod_bd (b := (d.length : Int)) hux.1 (by omega); omega⟩
          refine GE_skip ?_
          refine GE_seq ?_
          refine GE_block ?_
          refine GE_seq ?_
          refine GE_slots (L' := [(0, _), (1, _), (2, _), (3, _), (9, _), (10, _), (17, _), (18, _), (19, _), (22, _), (23, _), (24, _)]) ⟨rfl, rfl, rfl, rfl, rfl, rfl, rfl, rfl, rfl, rfl, rfl, rfl, trivial⟩ ?_
          refine GE_plain (.st 0 (.st 1 (.st 2 (.st 3 (.st 4 (.st 5 (.st 6 (.st 7 (.st 8 (.st 9 (.st 10 (.st 11 (.st 12 .nil))))))))))))) rfl ?_
          refine GT_st rfl rfl rfl rfl (V_move rfl rfl) ?_
          refine GT_st rfl rfl rfl rfl (V_move rfl rfl) ?_
          refine GT_st rfl rfl rfl rfl (V_move rfl rfl) ?_
          refine GT_st rfl rfl rfl rfl (V_index rfl rfl rfl Try.underlying64 sz_5 (k := k) rfl hkl2 (hu.isSome hkl2)) ?_
          refine GT_st rfl rfl rfl rfl (V_load rfl rfl ag_5 (hu.at0 noM hkl2 rfl)) ?_
          refine GT_st rfl rfl rfl rfl (V_convII rfl rfl (by rw [Try.underlying5]; rfl) Try.underlying3 (wrap_i64 (by omega))) ?_
          refine GT_st rfl rfl rfl rfl (V_move rfl rfl) ?_
          refine GT_st rfl rfl rfl rfl (V_len rfl Try.underlying37 rfl) ?_
          refine GT_st rfl rfl rfl rfl (V_rem rfl rfl rfl (by omega)) ?_
          refine GT_st rfl rfl rfl rfl (V_index rfl rfl rfl Try.underlying37 sz_50 (k := q) hq hql (hd.isSome hql)) ?_
          first | refine GT_st rfl rfl rfl rfl (V_field rfl rfl fo_50_0) ?_ | refine GT_st rfl rfl rfl rfl (V_fieldA rfl rfl fo_50_0) ?_
          refine GT_st rfl rfl rfl rfl (V_load rfl rfl ag_2 (hd.at0 noM hql rfl)) ?_
          refine GT_st rfl rfl rfl rfl (V_assign rfl rfl) ?_
          refine GT_nil ?_
          refine GE_slots (L' := [(0, _), (1, _), (2, _), (3, _), (9, _), (10, _), (11, _), (17, _), (18, _), (19, _), (22, _), (23, _), (24, _)]) ⟨rfl, rfl, rfl, rfl, rfl, rfl, rfl, rfl, rfl, rfl, rfl, rfl, rfl, trivial⟩ ?_
          refine GE_plain (.st 0 (.st 1 (.st 2 (.st 3 (.ld 4 [] (.st 5 (.ld 6 [] (.ld 7 [] (.ld 8 [] .nil))))))))) rfl ?_
          refine GT_st rfl rfl rfl rfl (V_move rfl rfl) ?_
          refine GT_st rfl rfl rfl rfl (V_move rfl rfl) ?_
          refine GT_st rfl rfl rfl rfl (V_move rfl rfl) ?_
          refine GT_st rfl rfl rfl rfl (V_move rfl rfl) ?_
          refine GT_call0 rfl rfl rfl rfl rfl rfl rfl rfl rn_24 (fun w hw => C_among (hh.sh hw) (by omega)) (GR_nil) ?_
          rw [contains_has hD hql]
          refine GT_st rfl rfl rfl rfl (V_build (vs := [_, _]) rfl rfl zc_61 pl_61 sa_61 rfl) ?_
          refine GT_buildSlice (z := [_, _]) rfl rfl rfl rfl rfl Try.underlying54 zc_61 sz_61 (by decide) rfl rfl (fun _ => GR_nil) (fun b46 => ?_)
          refine GT_append (enc := eHrg) (m := [⟨(d.getD q default).ser, x.has.getD q default⟩]) rfl rfl rfl rfl rfl rfl rfl hO (fun w m => RdL.own' m eHrg_len) Try.underlying54 zc_61 sz_61 ⟨rfl, by decide⟩ by_61 ⟨by simp only [List.length_singleton]; omega, by simp only [List.length_singleton]; omega⟩ eHrg_len eHrg_one (fun _ _ _ _ => GR_nil) (fun A2' c2' I2' hO2 => ?_)
          refine GT_ldv rfl rfl rfl rfl rfl (V_assign rfl rfl) (GR_nil) ?_
          refine GT_nil ?_
          refine GE_inBlock ?_
          refine GE_slots (L' := [(0, _), (1, _), (2, _), (3, _), (9, _), (10, _), (17, _), (18, _), (19, _), (22, _), (23, _), (24, _)]) ⟨rfl, rfl, rfl, rfl, rfl, rfl, rfl, rfl, rfl, rfl, rfl, rfl, trivial⟩ ?_
          refine GE_plain (.st 0 (.st 1 (.ld 2 [] .nil))) rfl ?_
          refine GT_st rfl rfl rfl rfl (V_move rfl rfl) ?_
          refine GT_st rfl rfl rfl rfl (V_add rfl rfl rfl (wrap_i64 (by omega))) ?_
          refine GT_ldv rfl rfl rfl rfl rfl (V_assign rfl rfl) (GR_nil) ?_
          refine GT_nil ?_
          exact GE_to (ih (k + 1, _, A2', c2', I2') ⟨by dsimp only; omega, by dsimp only; rw [List.length_append, List.length_singleton, hkl], hg.snoc hql, hO2⟩ (by dsimp only; omega)) ⟨rfl, rfl, rfl, rfl, rfl, rfl, trivial⟩ HS.last
        · skip
          refine GE_exit rfl ?_
          refine GE_seq ?_
          refine GE_slots (L' := [(9, _)]) ⟨rfl, trivial⟩ ?_
          refine GE_plain (.st 0 (.st 1 .nil)) rfl ?_
          refine GT_st rfl rfl rfl rfl (V_move rfl rfl) ?_
          refine GT_st rfl rfl rfl rfl (V_assign rfl rfl) ?_
          refine GT_nil ?_
          refine GE_ret Try.func32 rfl (fun w hw => ⟨(hs, A', c', I'), ⟨by dsimp only; omega, hg, hO⟩, rfl, hw⟩)
          skip
      · skip
        refine GT_skip rfl rfl rfl rfl rfl (by decide) rfl rfl ?_
        refine GT_skip rfl rfl rfl rfl rfl (by decide) rfl rfl ?_
        refine GT_skip rfl rfl rfl rfl rfl (by decide) rfl rfl ?_
        refine GT_st rfl rfl rfl rfl (V_pick_f rfl rfl rfl) ?_
        refine GT_nil ?_
        refine GE_cond_f rfl ?_
        refine GE_exit rfl ?_
        refine GE_seq ?_
        refine GE_slots (L' := [(9, _)]) ⟨rfl, trivial⟩ ?_
        refine GE_plain (.st 0 (.st 1 .nil)) rfl ?_
        refine GT_st rfl rfl rfl rfl (V_move rfl rfl) ?_
        refine GT_st rfl rfl rfl rfl (V_assign rfl rfl) ?_
        refine GT_nil ?_
        refine GE_ret Try.func32 rfl (fun w hw => ⟨(hs, A', c', I'), ⟨by dsimp only; omega, hg, hO⟩, rfl, hw⟩)
        skip
    · skip
      refine GT_skip rfl rfl rfl rfl rfl (by decide) rfl rfl ?_
      refine GT_skip rfl rfl rfl rfl rfl (by decide) rfl rfl ?_
      refine GT_skip rfl rfl rfl rfl rfl (by decide) rfl rfl ?_
      refine GT_st rfl rfl rfl rfl (V_pick_f rfl rfl rfl) ?_
      refine GT_st rfl rfl rfl rfl (V_move rfl rfl) ?_
      refine GT_skip rfl rfl rfl rfl rfl (by decide) rfl rfl ?_
      refine GT_skip rfl rfl rfl rfl rfl (by decide) rfl rfl ?_
      refine GT_skip rfl rfl rfl rfl rfl (by decide) rfl rfl ?_
      refine GT_st rfl rfl rfl rfl (V_pick_f rfl rfl rfl) ?_
      refine GT_nil ?_
      refine GE_cond_f rfl ?_
      refine GE_exit rfl ?_
      refine GE_seq ?_
      refine GE_slots (L' := [(9, _)]) ⟨rfl, trivial⟩ ?_
      refine GE_plain (.st 0 (.st 1 .nil)) rfl ?_
      refine GT_st rfl rfl rfl rfl (V_move rfl rfl) ?_
      refine GT_st rfl rfl rfl rfl (V_assign rfl rfl) ?_
      refine GT_nil ?_
      refine GE_ret Try.func32 rfl (fun w hw => ⟨(hs, A', c', I'), ⟨by dsimp only; omega, hg, hO⟩, rfl, hw⟩)
      skip
  · exact ⟨Nat.zero_le _, rfl, GoodH.nil, Own.nil⟩

set_option maxRecDepth 10000 in
set_option maxHeartbeats 4000000 in
theorem L_ListenTruth {x : Int} {us : List Int} (hp : RdL w 7 ePlt A p) (hxp : p.length ≤ c ∧ c ≤ maxLen ∧ ∀ x ∈ p, Plt.wf x) (hd : RdL w 7 eDsc A2 d) (hxd : d.length ≤ c2 ∧ c2 ≤ maxLen ∧ ∀ x ∈ d, Dsc.wf x) (_ : (Lit.int .i64 side).wf = true) (hxw : (Lit.int .u16 x).wf = true) (hu : RdL w 1 eU8 A3 us) (hxu : us.length ≤ c3 ∧ c3 ≤ maxLen ∧ ∀ x ∈ us, 0 ≤ x ∧ x ≤ 255) :
    Con0 Try.prog 9 [.slice A p.length c, .slice A2 d.length c2, I side, .int .u16 x, .slice A3 us.length c3] w (.bool true) := by
  have hwf := hxp.2.2
  have hdf := hxd.2.2
  have hx := u16_of hxw
  refine Ret_of (vs := [_, _, _, _, _]) hm none' Try.func9 rfl Try.ntmps9 rfl ?_
  dsimp only [slotsOf]
  refine GE_seq ?_
  refine GE_plain (.st 0 .nil) rfl ?_
  refine GT_st rfl rfl rfl rfl (V_assign rfl rfl) ?_
  refine GT_nil ?_
  refine GE_seq ?_
  refine GE_seq ?_
  refine GE_plain (.st 0 (.st 1 (.st 2 (.ld 3 [] (.st 4 (.st 5 (.st 6 (.st 7 (.st 8 (.st 9 .nil)))))))))) rfl ?_
  refine GT_st rfl rfl rfl rfl (V_move rfl rfl) ?_
  refine GT_st rfl rfl rfl rfl (V_move rfl rfl) ?_
  refine GT_st rfl rfl rfl rfl (V_move rfl rfl) ?_
  refine GT_call0 rfl rfl rfl rfl rfl rfl rfl rfl rn_20 (fun w hw => C_small (hp.sh hw) hwf (hd.sh hw) hdf) (GR_nil) ?_
  first | refine GT_st rfl rfl rfl rfl (V_not rfl rfl) ?_ | refine GT_st rfl rfl rfl rfl (V_notB rfl rfl) ?_
  refine GT_st rfl rfl rfl rfl (V_move rfl rfl) ?_
  first | refine GT_splitNot (d := 35) rfl (fun h1 => ?_) (fun h1 => ?_) | refine GT_split (d := 35) rfl (fun h1 => ?_) (fun h1 => ?_) | refine GT_splitNotB (d := 35) rfl (fun h1 => ?_) (fun h1 => ?_) | refine GT_splitB (d := 35) rfl (fun h1 => ?_) (fun h1 => ?_)
  · skip
    refine GT_skip rfl rfl rfl rfl rfl (by decide) rfl rfl ?_
    refine GT_skip rfl rfl rfl rfl rfl (by decide) rfl rfl ?_
    refine GT_skip rfl rfl rfl rfl rfl (by decide) rfl rfl ?_
    refine GT_st rfl rfl rfl rfl (V_pick_t rfl rfl rfl) ?_
    refine GT_nil ?_
    refine GE_cond_t rfl ?_
    refine GE_seq ?_
    refine GE_slots (L' := []) trivial ?_
    refine GE_plain (.ld 0 [] (.st 1 .nil)) rfl ?_
    refine GT_call0 rfl rfl rfl rfl rfl rfl rfl rfl rn_13 (fun w hw => C_law09_Works) (GR_nil) ?_
    refine GT_st rfl rfl rfl rfl (V_assign rfl rfl) ?_
    refine GT_nil ?_
    refine GE_ret Try.func9 rfl (fun w hw => ⟨?_, hw.nil⟩)
    rfl
  · obtain ⟨hpl, hdl, hR⟩ := of_small h1; have hle := causS_le (side := side) hR.dl hR.pl; have hml : ((causS p d side).map Sus.cau).length = (causS p d side).length := List.length_map ..
    refine GT_st_g rfl rfl rfl rfl rfl rfl rfl (V_move rfl rfl) ?_
    refine GT_st_g rfl rfl rfl rfl rfl rfl rfl (V_len rfl Try.underlying64 rfl) ?_
    refine GT_st_g rfl rfl rfl rfl rfl rfl rfl (V_gtr rfl rfl rfl) ?_
    refine GT_st rfl rfl rfl rfl (V_pick_f rfl rfl rfl) ?_
    refine GT_nil ?_
    first | refine GE_condNot rfl (fun h2 => ?_) (fun h2 => ?_) | refine GE_cond rfl (fun h2 => ?_) (fun h2 => ?_) | refine GE_condNotB rfl (fun h2 => ?_) (fun h2 => ?_) | refine GE_condB rfl (fun h2 => ?_) (fun h2 => ?_)
    · skip
      refine GE_seq ?_
      refine GE_slots (L' := []) trivial ?_
      refine GE_plain (.ld 0 [] (.st 1 .nil)) rfl ?_
      refine GT_call0 rfl rfl rfl rfl rfl rfl rfl rfl rn_13 (fun w hw => C_law09_Works) (GR_nil) ?_
      refine GT_st rfl rfl rfl rfl (V_assign rfl rfl) ?_
      refine GT_nil ?_
      refine GE_ret Try.func9 rfl (fun w hw => ⟨?_, hw.nil⟩)
      rfl
    · skip
      refine GE_skip ?_
      refine GE_seq ?_
      refine GE_slots (L' := [(0, _), (1, _), (2, _), (3, _), (4, _)]) ⟨rfl, rfl, rfl, rfl, rfl, trivial⟩ ?_
      refine GE_plain (.st 0 (.st 1 (.st 2 (.ld 3 [] (.st 4 .nil))))) rfl ?_
      refine GT_st rfl rfl rfl rfl (V_move rfl rfl) ?_
      refine GT_st rfl rfl rfl rfl (V_move rfl rfl) ?_
      refine GT_st rfl rfl rfl rfl (V_move rfl rfl) ?_
      refine GT_call rfl rfl rfl rfl rfl rfl rfl rfl rn_29 (fun w hw => C_All (hp.sh hw) (hd.sh hw) hR) (fun _ _ => GR_nil) (fun y hy => ?_)
      refine GT_st rfl rfl rfl rfl (V_assign rfl rfl) ?_
      refine GT_nil ?_
      refine GE_seq ?_
      refine GE_seq ?_
      refine GE_slots (L' := [(0, _), (1, _), (2, _), (3, _), (4, _), (11, _)]) ⟨rfl, rfl, rfl, rfl, rfl, rfl, trivial⟩ ?_
      refine GE_plain (.st 0 (.st 1 (.st 2 .nil))) rfl ?_
      refine GT_st rfl rfl rfl rfl (V_move rfl rfl) ?_
      refine GT_st rfl rfl rfl rfl (V_len rfl Try.underlying39 rfl) ?_
      refine GT_st rfl rfl rfl rfl (V_eql rfl rfl rfl) ?_
      refine GT_nil ?_
      first | refine GE_condNot rfl (fun h3 => ?_) (fun h3 => ?_) | refine GE_cond rfl (fun h3 => ?_) (fun h3 => ?_) | refine GE_condNotB rfl (fun h3 => ?_) (fun h3 => ?_) | refine GE_condB rfl (fun h3 => ?_) (fun h3 => ?_)
      · skip
        refine GE_seq ?_
        refine GE_slots (L' := []) trivial ?_
        refine GE_plain (.ld 0 [] (.st 1 .nil)) rfl ?_
        refine GT_call0 rfl rfl rfl rfl rfl rfl rfl rfl rn_13 (fun w hw => C_law09_Works) (GR_nil) ?_
        refine GT_st rfl rfl rfl rfl (V_assign rfl rfl) ?_
        refine GT_nil ?_
        refine GE_ret Try.func9 rfl (fun w hw => ⟨?_, hw.nil⟩)
        rfl
      · have hl0 : 0 < (causS p d side).length := (by omega)
        obtain ⟨q, hq, hql⟩ : ∃ q : Nat, x.tmod (((causS p d side).map Sus.cau).length : Int) = q ∧ q < (causS p d side).length := ⟨(x.tmod (((causS p d side).map Sus.cau).length : Int)).toNat, by have := tmod_bd (b := (((causS p d side).map Sus.cau).length : Int)) hx.1 (by omega); omega, by have := tmod_bd (b := (((causS p d side).map Sus.cau).length : Int)) hx.1 (by omega); omega⟩
        have hg := cau_get hql
        have hx0 := mem_getD hql
        generalize (causS p d side).getD q default = x0 at hg hx0
        have hl1 := hasS_le (d := d) (x := x0)
        refine GE_skip ?_
        refine GE_seq ?_
        refine GE_plain (.st 0 (.st 1 (.st 2 (.st 3 (.st 4 (.st 5 (.st 6 (.st 7 (.ld 8 [] (.ld 9 [] .nil)))))))))) rfl ?_
        refine GT_st rfl rfl rfl rfl (V_move rfl rfl) ?_
        refine GT_st rfl rfl rfl rfl (V_move rfl rfl) ?_
        refine GT_st rfl rfl rfl rfl (V_convII rfl rfl (by rw [Try.underlying22]; rfl) Try.underlying3 (wrap_i64 (by omega))) ?_
        refine GT_st rfl rfl rfl rfl (V_move rfl rfl) ?_
        refine GT_st rfl rfl rfl rfl (V_len rfl Try.underlying39 rfl) ?_
        refine GT_st rfl rfl rfl rfl (V_rem rfl rfl rfl (by omega)) ?_
        refine GT_st rfl rfl rfl rfl (V_index rfl rfl rfl Try.underlying39 sz_46 (k := q) hq (by omega) (hy.isSome (k := q) (by omega))) ?_
        refine GT_st rfl rfl rfl rfl (V_loadN (vs := [_, _]) rfl rfl ag_46 sz_46 rfl (CellsAt.ownE hy eCau_len (by omega) (by rw [hg]; rfl))) ?_
        refine GT_alloc rfl rfl rfl rfl rfl zc_46 (fun _ => GR_nil) (fun b12 => ?_)
        refine GT_store (vs := [_, _]) (l' := [_, _]) rfl rfl rfl rfl rfl rfl rfl sz_46 rfl rfl (Nat.le_of_ble_eq_true rfl) rfl (GR_nil) ?_
        refine GT_nil ?_
        refine GE_seq ?_
        refine GE_slots (L' := [(0, _), (1, _), (2, _), (4, _), (12, _)]) ⟨rfl, rfl, rfl, rfl, rfl, trivial⟩ ?_
        refine GE_plain (.st 0 (.st 1 (.st 2 (.st 3 (.ld 4 [] (.st 5 (.st 6 (.st 7 (.st 8 (.st 9 .nil)))))))))) rfl ?_
        refine GT_st rfl rfl rfl rfl (V_move rfl rfl) ?_
        refine GT_st rfl rfl rfl rfl (V_move rfl rfl) ?_
        refine GT_st rfl rfl rfl rfl (V_move rfl rfl) ?_
        refine GT_st rfl rfl rfl rfl (V_loadN (vs := [_, _]) rfl rfl ag_46 sz_46 rfl (CellsAt.item rfl)) ?_
        refine GT_call rfl rfl rfl rfl rfl rfl rfl rfl rn_22 (fun w hw => C_Has (x := x0) (hp.sh hw) hwf (hd.sh hw) hdf hR hx0) (fun _ _ => GR_nil) (fun u hu2 => ?_)
        refine GT_st rfl rfl rfl rfl (V_move rfl rfl) ?_
        refine GT_st rfl rfl rfl rfl (V_extract rfl rfl rfl) ?_
        refine GT_st rfl rfl rfl rfl (V_extract rfl rfl rfl) ?_
        refine GT_st rfl rfl rfl rfl (V_assign rfl rfl) ?_
        refine GT_st rfl rfl rfl rfl (V_assign rfl rfl) ?_
        refine GT_nil ?_
        refine GE_seq ?_
        refine GE_seq ?_
        refine GE_slots (L' := [(0, _), (1, _), (2, _), (4, _), (12, _), (13, _), (14, _)]) ⟨rfl, rfl, rfl, rfl, rfl, rfl, rfl, trivial⟩ ?_
        refine GE_plain (.st 0 (.st 1 .nil)) rfl ?_
        refine GT_st rfl rfl rfl rfl (V_move rfl rfl) ?_
        refine GT_st rfl rfl rfl rfl (V_neq rfl rfl rfl) ?_
        refine GT_nil ?_
        first | refine GE_condNot rfl (fun h4 => ?_) (fun h4 => ?_) | refine GE_cond rfl (fun h4 => ?_) (fun h4 => ?_) | refine GE_condNotB rfl (fun h4 => ?_) (fun h4 => ?_) | refine GE_condB rfl (fun h4 => ?_) (fun h4 => ?_)
        · exact absurd rfl h4
        · skip
          refine GE_skip ?_
          refine GE_seq ?_
          refine GE_plain (.st 0 (.st 1 (.st 2 (.ld 3 [] (.st 4 .nil))))) rfl ?_
          refine GT_st rfl rfl rfl rfl (V_move rfl rfl) ?_
          refine GT_st rfl rfl rfl rfl (V_move rfl rfl) ?_
          refine GT_st rfl rfl rfl rfl (V_move rfl rfl) ?_
          refine GT_call rfl rfl rfl rfl rfl rfl rfl rfl rn_32 (fun w hw => C_truth (x := x0) (hd.sh hw) hR.dsok (by omega) (hu2.rdH eI_len hw) (hu.sh hw) hxu.2.2) (fun _ _ => GR_nil) (fun t ht => ?_)
          obtain ⟨hs0, At, ct, It⟩ := t; obtain ⟨ht1, ht2, ht3⟩ := ht; dsimp only at ht1 ht2 ht3 ⊢
          refine GT_st rfl rfl rfl rfl (V_assign rfl rfl) ?_
          refine GT_nil ?_
          refine GE_seq ?_
          refine GE_seq ?_
          refine GE_slots (L' := [(0, _), (1, _), (2, _), (12, _), (13, _), (15, _)]) ⟨rfl, rfl, rfl, rfl, rfl, rfl, trivial⟩ ?_
          refine GE_plain (.st 0 .nil) rfl ?_
          refine GT_st rfl rfl rfl rfl (V_assign rfl rfl) ?_
          refine GT_nil ?_
          refine GE_block ?_
          refine GE_to (GE_loop (ι := Nat × List Hrg × Option Addr × Nat × Items) (fun z => 2 - z.1) (fun z => [(0, .slice A p.length c), (1, .slice A2 d.length c2), (2, I side), (12, ptr b12 0), (13, .slice u.1 (hasS d x0).length u.2.1), (15, .slice z.2.2.1 z.2.1.length z.2.2.2.1), (16, I z.1)]) (fun z => (b12, blk [I x0.plate, I x0.frm] 46) :: (z.2.2.2.2 ++ u.2.2)) (fun z => z.1 ≤ 2 ∧ z.2.1.length ≤ 40 + 16 * z.1 ∧ GoodH d x0 z.2.1 ∧ Own 2 61 eHrg z.2.1 (.slice z.2.2.1 z.2.1.length z.2.2.2.1) z.2.2.2.2) ?_ (0, hs0, At, ct, It) ?_) ⟨rfl, rfl, rfl, rfl, rfl, rfl, rfl, trivial⟩ (HS.cons rfl (HS.chunk HS.last))
          · rintro ⟨n, hs, A', c', I'⟩ ⟨hn, hsl, hgd, hO⟩ ih; dsimp only at hn hsl hgd hO ih ⊢
            refine GE_seq ?_
            refine GE_seq ?_
            refine GE_plain (.st 0 (.st 1 .nil)) rfl ?_
            refine GT_st rfl rfl rfl rfl (V_move rfl rfl) ?_
            refine GT_st rfl rfl rfl rfl (V_lss rfl rfl rfl) ?_
            refine GT_nil ?_
            first | refine GE_condNot rfl (fun h5 => ?_) (fun h5 => ?_) | refine GE_cond rfl (fun h5 => ?_) (fun h5 => ?_) | refine GE_condNotB rfl (fun h5 => ?_) (fun h5 => ?_) | refine GE_condB rfl (fun h5 => ?_) (fun h5 => ?_)
            · skip
              refine GE_skip ?_
              refine GE_seq ?_
              refine GE_block ?_
              refine GE_cut (ι := List Hrg × Option Addr × Nat × Items) (fun z => [(0, .slice A p.length c), (1, .slice A2 d.length c2), (2, I side), (12, ptr b12 0), (13, .slice u.1 (hasS d x0).length u.2.1), (15, .slice z.2.1 z.1.length z.2.2.1), (16, I n)]) (fun z => (b12, blk [I x0.plate, I x0.frm] 46) :: (z.2.2.2 ++ u.2.2)) (fun z => z.1.length ≤ 40 + 16 * (n + 1) ∧ GoodH d x0 z.1 ∧ ((n : Int) = 1 → ∀ i, i < d.length → ∃ y ∈ z.1, y.ser = (d.getD i default).ser) ∧ Own 2 61 eHrg z.1 (.slice z.2.1 z.1.length z.2.2.1) z.2.2.2) ?_ (fun hk19 => ?_)
              · rintro ⟨hs1, A1, c1, I1⟩ ⟨hsl1, hgd1, hfull, hO1⟩; dsimp only at hsl1 hgd1 hfull hO1 ⊢
                have he : hearE p d side hs1 = 0 := hearE_zero.2 ⟨hR, by omega, hgd1.known⟩
                have hx0l : x0 ∈ leftS p d side hs1 := leftS_mem.2 ⟨hx0, hgd1.agree hR.dsok⟩
                have hcl : causL p d side hs1 = (leftS p d side hs1).map Sus.cau := if_pos he
                have hsu : suspL p d side hs1 = cpt ((leftS p d side hs1).map Sus.plate) := if_pos he
                have hce : certL p d side hs1 = certS d (leftS p d side hs1) := if_pos he
                have hpo : possL p d side hs1 = possS d (leftS p d side hs1) := if_pos he
                have hle1 := leftS_le (h := hs1) hR
                have hml1 : ((leftS p d side hs1).map Sus.cau).length = (leftS p d side hs1).length := List.length_map ..
                have hcpl : (cpt ((leftS p d side hs1).map Sus.plate)).length ≤ 70000 := Nat.le_trans (cptTo_le _ _) (by rw [List.length_map]; exact hle1)
                have hcel : (certS d (leftS p d side hs1)).length ≤ d.length := pick_le
                have hpol : (possS d (leftS p d side hs1)).length ≤ d.length := pick_le
                have hw1 : ((certS d (leftS p d side hs1)).all fun s => (hasS d x0).contains s) = true := (by rw [List.all_eq_true]; intro s hs; rw [List.contains_iff_mem]; exact cert_sub hx0l hs)
                have hw2 : ((hasS d x0).all fun s => (possS d (leftS p d side hs1)).contains s) = true := (by rw [List.all_eq_true]; intro s hs; rw [List.contains_iff_mem]; exact poss_sup hx0l hs)
                refine GE_seq ?_
                refine GE_plain (.st 0 (.st 1 (.st 2 (.st 3 (.ld 4 [] (.st 5 (.st 6 (.st 7 (.st 8 (.st 9 .nil)))))))))) rfl ?_
                refine GT_st rfl rfl rfl rfl (V_move rfl rfl) ?_
                refine GT_st rfl rfl rfl rfl (V_move rfl rfl) ?_
                refine GT_st rfl rfl rfl rfl (V_move rfl rfl) ?_
                refine GT_st rfl rfl rfl rfl (V_move rfl rfl) ?_
                refine GT_call rfl rfl rfl rfl rfl rfl rfl rfl rn_21 (fun w hw => C_Causes (hp.sh hw) hwf (hd.sh hw) hdf (hO1.rdH eHrg_len hw)) (fun _ _ => GR_nil) (fun v hv => ?_)
                rw [hcl] at hv ⊢; rw [he]
                refine GT_st rfl rfl rfl rfl (V_move rfl rfl) ?_
                refine GT_st rfl rfl rfl rfl (V_extract rfl rfl rfl) ?_
                refine GT_st rfl rfl rfl rfl (V_extract rfl rfl rfl) ?_
                refine GT_st rfl rfl rfl rfl (V_assign rfl rfl) ?_
                refine GT_st rfl rfl rfl rfl (V_assign rfl rfl) ?_
                refine GT_nil ?_
                refine GE_seq ?_
                refine GE_slots (L' := [(0, _), (1, _), (2, _), (12, _), (13, _), (15, _), (16, _), (18, _), (19, _)]) ⟨rfl, rfl, rfl, rfl, rfl, rfl, rfl, rfl, rfl, trivial⟩ ?_
                refine GE_plain (.st 0 (.st 1 (.st 2 (.st 3 (.ld 4 [] (.st 5 (.st 6 (.st 7 (.st 8 (.st 9 .nil)))))))))) rfl ?_
                refine GT_st rfl rfl rfl rfl (V_move rfl rfl) ?_
                refine GT_st rfl rfl rfl rfl (V_move rfl rfl) ?_
                refine GT_st rfl rfl rfl rfl (V_move rfl rfl) ?_
                refine GT_st rfl rfl rfl rfl (V_move rfl rfl) ?_
                refine GT_call rfl rfl rfl rfl rfl rfl rfl rfl rn_33 (fun w hw => C_Suspects (hp.sh hw) hwf (hd.sh hw) hdf (hO1.rdH eHrg_len hw)) (fun _ _ => GR_nil) (fun s hs' => ?_)
                rw [hsu] at hs' ⊢; rw [he]
                refine GT_st rfl rfl rfl rfl (V_move rfl rfl) ?_
                refine GT_st rfl rfl rfl rfl (V_extract rfl rfl rfl) ?_
                refine GT_st rfl rfl rfl rfl (V_extract rfl rfl rfl) ?_
                refine GT_st rfl rfl rfl rfl (V_assign rfl rfl) ?_
                refine GT_st rfl rfl rfl rfl (V_assign rfl rfl) ?_
                refine GT_nil ?_
                refine GE_seq ?_
                refine GE_slots (L' := [(0, _), (1, _), (2, _), (12, _), (13, _), (15, _), (16, _), (18, _), (19, _), (20, _), (21, _)]) ⟨rfl, rfl, rfl, rfl, rfl, rfl, rfl, rfl, rfl, rfl, rfl, trivial⟩ ?_
                refine GE_plain (.st 0 (.st 1 (.st 2 (.st 3 (.ld 4 [] (.st 5 (.st 6 (.st 7 (.st 8 (.st 9 .nil)))))))))) rfl ?_
                refine GT_st rfl rfl rfl rfl (V_move rfl rfl) ?_
                refine GT_st rfl rfl rfl rfl (V_move rfl rfl) ?_
                refine GT_st rfl rfl rfl rfl (V_move rfl rfl) ?_
                refine GT_st rfl rfl rfl rfl (V_move rfl rfl) ?_
                refine GT_call rfl rfl rfl rfl rfl rfl rfl rfl rn_30 (fun w hw => C_Certain (hp.sh hw) hwf (hd.sh hw) hdf (hO1.rdH eHrg_len hw)) (fun _ _ => GR_nil) (fun e hec => ?_)
                rw [hce] at hec ⊢; rw [he]
                refine GT_st rfl rfl rfl rfl (V_move rfl rfl) ?_
                refine GT_st rfl rfl rfl rfl (V_extract rfl rfl rfl) ?_
                refine GT_st rfl rfl rfl rfl (V_extract rfl rfl rfl) ?_
                refine GT_st rfl rfl rfl rfl (V_assign rfl rfl) ?_
                refine GT_st rfl rfl rfl rfl (V_assign rfl rfl) ?_
                refine GT_nil ?_
                refine GE_seq ?_
                refine GE_slots (L' := [(0, _), (1, _), (2, _), (12, _), (13, _), (15, _), (16, _), (18, _), (19, _), (20, _), (21, _), (22, _), (23, _)]) ⟨rfl, rfl, rfl, rfl, rfl, rfl, rfl, rfl, rfl, rfl, rfl, rfl, rfl, trivial⟩ ?_
                refine GE_plain (.st 0 (.st 1 (.st 2 (.st 3 (.ld 4 [] (.st 5 (.st 6 (.st 7 (.st 8 (.st 9 .nil)))))))))) rfl ?_
                refine GT_st rfl rfl rfl rfl (V_move rfl rfl) ?_
                refine GT_st rfl rfl rfl rfl (V_move rfl rfl) ?_
                refine GT_st rfl rfl rfl rfl (V_move rfl rfl) ?_
                refine GT_st rfl rfl rfl rfl (V_move rfl rfl) ?_
                refine GT_call rfl rfl rfl rfl rfl rfl rfl rfl rn_31 (fun w hw => C_Possible (hp.sh hw) hwf (hd.sh hw) hdf (hO1.rdH eHrg_len hw)) (fun _ _ => GR_nil) (fun f hfp => ?_)
                rw [hpo] at hfp ⊢; rw [he]
                refine GT_st rfl rfl rfl rfl (V_move rfl rfl) ?_
                refine GT_st rfl rfl rfl rfl (V_extract rfl rfl rfl) ?_
                refine GT_st rfl rfl rfl rfl (V_extract rfl rfl rfl) ?_
                refine GT_st rfl rfl rfl rfl (V_assign rfl rfl) ?_
                refine GT_st rfl rfl rfl rfl (V_assign rfl rfl) ?_
                refine GT_nil ?_
                refine GE_cut (ι := Unit) (fun z => [(0, .slice A p.length c), (1, .slice A2 d.length c2), (2, I side), (12, ptr b12 0), (13, .slice u.1 (hasS d x0).length u.2.1), (15, .slice A1 hs1.length c1), (16, I n), (18, .slice v.1 ((leftS p d side hs1).map Sus.cau).length v.2.1), (20, .slice s.1 (cpt ((leftS p d side hs1).map Sus.plate)).length s.2.1)]) (fun z => (b12, blk [I x0.plate, I x0.frm] 46) :: (I1 ++ (u.2.2 ++ (v.2.2 ++ s.2.2)))) (fun z => True) ?_ (fun hk25 => ?_)
                · intro z _
                  refine GE_seq ?_
                  refine GE_plain (.st 0 (.st 1 .nil)) rfl ?_
                  refine GT_st rfl rfl rfl rfl (V_assign rfl rfl) ?_
                  refine GT_st rfl rfl rfl rfl (V_assign rfl rfl) ?_
                  refine GT_nil ?_
                  refine GE_seq ?_
                  refine GE_seq ?_
                  refine GE_plain (.st 0 .nil) rfl ?_
                  refine GT_st rfl rfl rfl rfl (V_assign rfl rfl) ?_
                  refine GT_nil ?_
                  refine GE_block ?_
                  refine GE_to (GE_loop (ι := Nat × Bool) (fun z => (leftS p d side hs1).length - z.1) (fun z => [(0, .slice A p.length c), (1, .slice A2 d.length c2), (2, I side), (12, ptr b12 0), (13, .slice u.1 (hasS d x0).length u.2.1), (15, .slice A1 hs1.length c1), (16, I n), (18, .slice v.1 ((leftS p d side hs1).map Sus.cau).length v.2.1), (20, .slice s.1 (cpt ((leftS p d side hs1).map Sus.plate)).length s.2.1), (26, .bool z.2), (27, .bool false), (28, I z.1)]) (fun z => (b12, blk [I x0.plate, I x0.frm] 46) :: (I1 ++ (u.2.2 ++ (v.2.2 ++ s.2.2)))) (fun z => z.1 ≤ (leftS p d side hs1).length ∧ ∀ q, q < z.1 → (leftS p d side hs1).getD q default = x0 → z.2 = true) ?_ (0, false) ?_) ⟨rfl, rfl, rfl, rfl, rfl, rfl, rfl, rfl, rfl, rfl, rfl, rfl, trivial⟩ HS.all
                  · rintro ⟨j, b⟩ ⟨hj, hb⟩ ih2; dsimp only at hj hb ih2 ⊢
                    refine GE_seq ?_
                    refine GE_seq ?_
                    refine GE_plain (.st 0 (.st 1 (.st 2 (.st 3 .nil)))) rfl ?_
                    refine GT_st rfl rfl rfl rfl (V_move rfl rfl) ?_
                    refine GT_st rfl rfl rfl rfl (V_move rfl rfl) ?_
                    refine GT_st rfl rfl rfl rfl (V_len rfl Try.underlying39 rfl) ?_
                    refine GT_st rfl rfl rfl rfl (V_lss rfl rfl rfl) ?_
                    refine GT_nil ?_
                    first | refine GE_condNot rfl (fun h8 => ?_) (fun h8 => ?_) | refine GE_cond rfl (fun h8 => ?_) (fun h8 => ?_) | refine GE_condNotB rfl (fun h8 => ?_) (fun h8 => ?_) | refine GE_condB rfl (fun h8 => ?_) (fun h8 => ?_)
                    · have hjl : j < (leftS p d side hs1).length := (by omega); have hgj := cau_get hjl
                      refine GE_skip ?_
                      refine GE_seq ?_
                      refine GE_block ?_
                      refine GE_slots (L' := [(0, _), (1, _), (2, _), (12, _), (13, _), (15, _), (16, _), (18, _), (20, _), (26, _), (27, _), (28, _)]) ⟨rfl, rfl, rfl, rfl, rfl, rfl, rfl, rfl, rfl, rfl, rfl, rfl, trivial⟩ ?_
                      refine GE_drawn (.st 0 (.st 1 (.st 2 (.st 3 (.st 4 (.st 5 (.st 6 (.st 7 (.st 8 (.ld 9 [] .nil)))))))))) [9] (by decide +kernel) ?_
                      refine GT_st rfl rfl rfl rfl (V_move rfl rfl) ?_
                      refine GT_st rfl rfl rfl rfl (V_move rfl rfl) ?_
                      first | refine GT_splitNot (d := 180) rfl (fun h9 => ?_) (fun h9 => ?_) | refine GT_split (d := 180) rfl (fun h9 => ?_) (fun h9 => ?_) | refine GT_splitNotB (d := 180) rfl (fun h9 => ?_) (fun h9 => ?_) | refine GT_splitB (d := 180) rfl (fun h9 => ?_) (fun h9 => ?_)
                      · skip
                        refine GT_skip rfl rfl rfl rfl rfl (by decide) rfl rfl ?_
                        refine GT_skip rfl rfl rfl rfl rfl (by decide) rfl rfl ?_
                        refine GT_skip rfl rfl rfl rfl rfl (by decide) rfl rfl ?_
                        refine GT_skip rfl rfl rfl rfl rfl (by decide) rfl rfl ?_
                        refine GT_skip rfl rfl rfl rfl rfl (by decide) rfl rfl ?_
                        refine GT_skip rfl rfl rfl rfl rfl (by decide) rfl rfl ?_
                        refine GT_st rfl rfl rfl rfl (V_pick_t rfl rfl rfl) ?_
                        refine GT_ldv rfl rfl rfl rfl rfl (V_assign rfl rfl) (GR_nil) ?_
                        refine GT_nil ?_
                        refine GE_inBlock ?_
                        refine GE_plain (.st 0 (.st 1 (.ld 2 [] .nil))) rfl ?_
                        refine GT_st rfl rfl rfl rfl (V_move rfl rfl) ?_
                        refine GT_st rfl rfl rfl rfl (V_add rfl rfl rfl (wrap_i64 (by omega))) ?_
                        refine GT_ldv rfl rfl rfl rfl rfl (V_assign rfl rfl) (GR_nil) ?_
                        refine GT_nil ?_
                        first
                          | exact GE_to (ih2 (j + 1, true) ⟨by dsimp only; omega, fun q _ _ => rfl⟩ (by dsimp only; omega)) ⟨rfl, rfl, rfl, rfl, rfl, rfl, rfl, rfl, rfl, rfl, rfl, rfl, trivial⟩ HS.all
                          | exact GE_to (ih2 (j + 1, _) ⟨by dsimp only; omega, fun q hq e => by rcases Nat.lt_or_ge q j with r | r; have := hb q r e; rw [h9] at this; cases this; rw [show q = j by dsimp only at hq; omega] at e; rw [e, show (x0.cau.plate == x0.plate) = true from beq_self_eq_true x0.plate]; exact beq_self_eq_true x0.frm⟩ (by dsimp only; omega)) ⟨rfl, rfl, rfl, rfl, rfl, rfl, rfl, rfl, rfl, rfl, rfl, rfl, trivial⟩ HS.all
                      · skip
                        refine GT_st_g rfl rfl rfl rfl rfl rfl rfl (V_move rfl rfl) ?_
                        refine GT_st_g rfl rfl rfl rfl rfl rfl rfl (V_move rfl rfl) ?_
                        refine GT_st_g rfl rfl rfl rfl rfl rfl rfl (V_index rfl rfl rfl Try.underlying39 sz_46 (k := j) rfl (by omega) (hv.isSome (k := j) (by omega))) ?_
                        refine GT_st_g rfl rfl rfl rfl rfl rfl rfl (V_loadN (vs := [_, _]) rfl rfl ag_46 sz_46 rfl (CellsAt.ownE hv eCau_len (by omega) (by rw [hgj]; rfl))) ?_
                        refine GT_st_g rfl rfl rfl rfl rfl rfl rfl (V_loadN (vs := [_, _]) rfl rfl ag_46 sz_46 rfl (CellsAt.item rfl)) ?_
                        refine GT_st_g rfl rfl rfl rfl rfl rfl rfl (V_eqlTwo rfl rfl rfl Try.underlying46 (by decide) (by decide) rfl rfl Try.underlying3 Try.underlying2 cau_stood cau_guard) ?_
                        refine GT_st rfl rfl rfl rfl (V_pick_f rfl rfl rfl) ?_
                        refine GT_ldv rfl rfl rfl rfl rfl (V_assign rfl rfl) (GR_nil) ?_
                        refine GT_nil ?_
                        refine GE_inBlock ?_
                        refine GE_plain (.st 0 (.st 1 (.ld 2 [] .nil))) rfl ?_
                        refine GT_st rfl rfl rfl rfl (V_move rfl rfl) ?_
                        refine GT_st rfl rfl rfl rfl (V_add rfl rfl rfl (wrap_i64 (by omega))) ?_
                        refine GT_ldv rfl rfl rfl rfl rfl (V_assign rfl rfl) (GR_nil) ?_
                        refine GT_nil ?_
                        first
                          | exact GE_to (ih2 (j + 1, true) ⟨by dsimp only; omega, fun q _ _ => rfl⟩ (by dsimp only; omega)) ⟨rfl, rfl, rfl, rfl, rfl, rfl, rfl, rfl, rfl, rfl, rfl, rfl, trivial⟩ HS.all
                          | exact GE_to (ih2 (j + 1, _) ⟨by dsimp only; omega, fun q hq e => by rcases Nat.lt_or_ge q j with r | r; have := hb q r e; rw [h9] at this; cases this; rw [show q = j by dsimp only at hq; omega] at e; rw [e, show (x0.cau.plate == x0.plate) = true from beq_self_eq_true x0.plate]; exact beq_self_eq_true x0.frm⟩ (by dsimp only; omega)) ⟨rfl, rfl, rfl, rfl, rfl, rfl, rfl, rfl, rfl, rfl, rfl, rfl, trivial⟩ HS.all
                    · obtain ⟨q, hq, hqe⟩ := List.getElem_of_mem hx0l; obtain rfl : b = true := hb q (by omega) (by simpa [List.getD, hq] using hqe)
                      refine GE_exit rfl ?_
                      refine GE_seq ?_
                      refine GE_seq ?_
                      refine GE_slots (L' := [(0, _), (1, _), (2, _), (12, _), (13, _), (15, _), (16, _), (20, _), (26, _), (27, _)]) ⟨rfl, rfl, rfl, rfl, rfl, rfl, rfl, rfl, rfl, rfl, trivial⟩ ?_
                      refine GE_plain (.st 0 .nil) rfl ?_
                      refine GT_st rfl rfl rfl rfl (V_assign rfl rfl) ?_
                      refine GT_nil ?_
                      refine GE_block ?_
                      refine GE_to (GE_loop (ι := Nat × Bool) (fun z => (cpt ((leftS p d side hs1).map Sus.plate)).length - z.1) (fun z => [(0, .slice A p.length c), (1, .slice A2 d.length c2), (2, I side), (12, ptr b12 0), (13, .slice u.1 (hasS d x0).length u.2.1), (15, .slice A1 hs1.length c1), (16, I n), (20, .slice s.1 (cpt ((leftS p d side hs1).map Sus.plate)).length s.2.1), (26, .bool true), (27, .bool z.2), (29, I z.1)]) (fun z => (b12, blk [I x0.plate, I x0.frm] 46) :: (I1 ++ (u.2.2 ++ s.2.2))) (fun z => z.1 ≤ (cpt ((leftS p d side hs1).map Sus.plate)).length ∧ ∀ q, q < z.1 → (cpt ((leftS p d side hs1).map Sus.plate)).getD q default = x0.plate → z.2 = true) ?_ (0, false) ?_) ⟨rfl, rfl, rfl, rfl, rfl, rfl, rfl, rfl, rfl, rfl, rfl, trivial⟩ (HS.cons rfl (HS.chunk (HS.chunk HS.last)))
                      · rintro ⟨j, b⟩ ⟨hj, hb⟩ ih3; dsimp only at hj hb ih3 ⊢
                        refine GE_seq ?_
                        refine GE_seq ?_
                        refine GE_plain (.st 0 (.st 1 (.st 2 (.st 3 .nil)))) rfl ?_
                        refine GT_st rfl rfl rfl rfl (V_move rfl rfl) ?_
                        refine GT_st rfl rfl rfl rfl (V_move rfl rfl) ?_
                        refine GT_st rfl rfl rfl rfl (V_len rfl Try.underlying66 rfl) ?_
                        refine GT_st rfl rfl rfl rfl (V_lss rfl rfl rfl) ?_
                        refine GT_nil ?_
                        first | refine GE_condNot rfl (fun h10 => ?_) (fun h10 => ?_) | refine GE_cond rfl (fun h10 => ?_) (fun h10 => ?_) | refine GE_condNotB rfl (fun h10 => ?_) (fun h10 => ?_) | refine GE_condB rfl (fun h10 => ?_) (fun h10 => ?_)
                        · have hjl : j < (cpt ((leftS p d side hs1).map Sus.plate)).length := (by omega)
                          refine GE_skip ?_
                          refine GE_seq ?_
                          refine GE_block ?_
                          refine GE_slots (L' := [(0, _), (1, _), (2, _), (12, _), (13, _), (15, _), (16, _), (20, _), (26, _), (27, _), (29, _)]) ⟨rfl, rfl, rfl, rfl, rfl, rfl, rfl, rfl, rfl, rfl, rfl, trivial⟩ ?_
                          refine GE_drawn (.st 0 (.st 1 (.st 2 (.st 3 (.st 4 (.st 5 (.st 6 (.st 7 (.st 8 (.st 9 (.ld 10 [] .nil))))))))))) [10] (by decide +kernel) ?_
                          refine GT_st rfl rfl rfl rfl (V_move rfl rfl) ?_
                          refine GT_st rfl rfl rfl rfl (V_move rfl rfl) ?_
                          first | refine GT_splitNot (d := 195) rfl (fun h11 => ?_) (fun h11 => ?_) | refine GT_split (d := 195) rfl (fun h11 => ?_) (fun h11 => ?_) | refine GT_splitNotB (d := 195) rfl (fun h11 => ?_) (fun h11 => ?_) | refine GT_splitB (d := 195) rfl (fun h11 => ?_) (fun h11 => ?_)
                          · skip
                            refine GT_skip rfl rfl rfl rfl rfl (by decide) rfl rfl ?_
                            refine GT_skip rfl rfl rfl rfl rfl (by decide) rfl rfl ?_
                            refine GT_skip rfl rfl rfl rfl rfl (by decide) rfl rfl ?_
                            refine GT_skip rfl rfl rfl rfl rfl (by decide) rfl rfl ?_
                            refine GT_skip rfl rfl rfl rfl rfl (by decide) rfl rfl ?_
                            refine GT_skip rfl rfl rfl rfl rfl (by decide) rfl rfl ?_
                            refine GT_skip rfl rfl rfl rfl rfl (by decide) rfl rfl ?_
                            refine GT_st rfl rfl rfl rfl (V_pick_t rfl rfl rfl) ?_
                            refine GT_ldv rfl rfl rfl rfl rfl (V_assign rfl rfl) (GR_nil) ?_
                            refine GT_nil ?_
                            refine GE_inBlock ?_
                            refine GE_plain (.st 0 (.st 1 (.ld 2 [] .nil))) rfl ?_
                            refine GT_st rfl rfl rfl rfl (V_move rfl rfl) ?_
                            refine GT_st rfl rfl rfl rfl (V_add rfl rfl rfl (wrap_i64 (by omega))) ?_
                            refine GT_ldv rfl rfl rfl rfl rfl (V_assign rfl rfl) (GR_nil) ?_
                            refine GT_nil ?_
                            first
                              | exact GE_to (ih3 (j + 1, true) ⟨by dsimp only; omega, fun q _ _ => rfl⟩ (by dsimp only; omega)) ⟨rfl, rfl, rfl, rfl, rfl, rfl, rfl, rfl, rfl, rfl, rfl, trivial⟩ (HS.cons rfl (HS.chunk (HS.chunk HS.last)))
                              | exact GE_to (ih3 (j + 1, _) ⟨by dsimp only; omega, fun q hq e => by rcases Nat.lt_or_ge q j with r | r; have := hb q r e; rw [h11] at this; cases this; rw [show q = j by dsimp only at hq; omega] at e; exact decide_eq_true e⟩ (by dsimp only; omega)) ⟨rfl, rfl, rfl, rfl, rfl, rfl, rfl, rfl, rfl, rfl, rfl, trivial⟩ (HS.cons rfl (HS.chunk (HS.chunk HS.last)))
                          · skip
                            refine GT_st_g rfl rfl rfl rfl rfl rfl rfl (V_move rfl rfl) ?_
                            refine GT_st_g rfl rfl rfl rfl rfl rfl rfl (V_move rfl rfl) ?_
                            refine GT_st_g rfl rfl rfl rfl rfl rfl rfl (V_index rfl rfl rfl Try.underlying66 sz_3 (k := j) rfl hjl (hs'.isSome (k := j) hjl)) ?_
                            refine GT_st_g rfl rfl rfl rfl rfl rfl rfl (V_load rfl rfl ag_3 (CellAt.own0 hs' eI_len hjl rfl)) ?_
                            first | refine GT_st_g rfl rfl rfl rfl rfl rfl rfl (V_field rfl rfl fo_46_0) ?_ | refine GT_st_g rfl rfl rfl rfl rfl rfl rfl (V_fieldA rfl rfl fo_46_0) ?_
                            refine GT_st_g rfl rfl rfl rfl rfl rfl rfl (V_load rfl rfl ag_3 (CellAt.item rfl)) ?_
                            refine GT_st_g rfl rfl rfl rfl rfl rfl rfl (V_eql rfl rfl rfl) ?_
                            refine GT_st rfl rfl rfl rfl (V_pick_f rfl rfl rfl) ?_
                            refine GT_ldv rfl rfl rfl rfl rfl (V_assign rfl rfl) (GR_nil) ?_
                            refine GT_nil ?_
                            refine GE_inBlock ?_
                            refine GE_plain (.st 0 (.st 1 (.ld 2 [] .nil))) rfl ?_
                            refine GT_st rfl rfl rfl rfl (V_move rfl rfl) ?_
                            refine GT_st rfl rfl rfl rfl (V_add rfl rfl rfl (wrap_i64 (by omega))) ?_
                            refine GT_ldv rfl rfl rfl rfl rfl (V_assign rfl rfl) (GR_nil) ?_
                            refine GT_nil ?_
                            first
                              | exact GE_to (ih3 (j + 1, true) ⟨by dsimp only; omega, fun q _ _ => rfl⟩ (by dsimp only; omega)) ⟨rfl, rfl, rfl, rfl, rfl, rfl, rfl, rfl, rfl, rfl, rfl, trivial⟩ (HS.cons rfl (HS.chunk (HS.chunk HS.last)))
                              | exact GE_to (ih3 (j + 1, _) ⟨by dsimp only; omega, fun q hq e => by rcases Nat.lt_or_ge q j with r | r; have := hb q r e; rw [h11] at this; cases this; rw [show q = j by dsimp only at hq; omega] at e; exact decide_eq_true e⟩ (by dsimp only; omega)) ⟨rfl, rfl, rfl, rfl, rfl, rfl, rfl, rfl, rfl, rfl, rfl, trivial⟩ (HS.cons rfl (HS.chunk (HS.chunk HS.last)))
                        · have hmem : x0.plate ∈ cpt ((leftS p d side hs1).map Sus.plate) := cpt_mem.2 (List.mem_map.2 ⟨x0, hx0l, rfl⟩); obtain ⟨q, hq, hqe⟩ := List.getElem_of_mem hmem; obtain rfl : b = true := hb q (by omega) (by simpa [List.getD, hq] using hqe)
                          refine GE_exit rfl ?_
                          refine GE_seq ?_
                          refine GE_slots (L' := [(0, _), (1, _), (2, _), (12, _), (13, _), (15, _), (16, _), (26, _), (27, _)]) ⟨rfl, rfl, rfl, rfl, rfl, rfl, rfl, rfl, rfl, trivial⟩ ?_
                          refine GE_plain (.st 0 (.st 1 (.st 2 (.st 3 (.st 4 (.st 5 .nil)))))) rfl ?_
                          refine GT_st rfl rfl rfl rfl (V_move rfl rfl) ?_
                          first | refine GT_st rfl rfl rfl rfl (V_not rfl rfl) ?_ | refine GT_st rfl rfl rfl rfl (V_notB rfl rfl) ?_
                          refine GT_st rfl rfl rfl rfl (V_move rfl rfl) ?_
                          refine GT_st_g rfl rfl rfl rfl rfl rfl rfl (V_move rfl rfl) ?_
                          first | refine GT_st_g rfl rfl rfl rfl rfl rfl rfl (V_not rfl rfl) ?_ | refine GT_st_g rfl rfl rfl rfl rfl rfl rfl (V_notB rfl rfl) ?_
                          refine GT_st rfl rfl rfl rfl (V_pick_f rfl rfl rfl) ?_
                          refine GT_nil ?_
                          refine GE_cond_f rfl ?_
                          refine GE_skip ?_
                          refine GE_inBlock ?_
                          refine GE_slots (L' := [(0, _), (1, _), (2, _), (12, _), (13, _), (15, _), (16, _), (207, _), (208, _)]) ⟨rfl, rfl, rfl, rfl, rfl, rfl, rfl, rfl, rfl, trivial⟩ ?_
                          refine GE_plain (.st 0 (.st 1 (.ld 2 [] .nil))) rfl ?_
                          refine GT_st rfl rfl rfl rfl (V_move rfl rfl) ?_
                          refine GT_st rfl rfl rfl rfl (V_add rfl rfl rfl (wrap_i64 (by omega))) ?_
                          refine GT_ldv rfl rfl rfl rfl rfl (V_assign rfl rfl) (GR_nil) ?_
                          refine GT_nil ?_
                          exact GE_to (ih (n + 1, hs1, A1, c1, I1) ⟨by dsimp only; omega, by dsimp only; omega, hgd1, hO1⟩ (by dsimp only; omega)) ⟨rfl, rfl, rfl, rfl, rfl, rfl, rfl, trivial⟩ (HS.cons rfl (HS.chunk HS.last))
                      · exact ⟨Nat.zero_le _, fun q hq => absurd hq (Nat.not_lt_zero _)⟩
                  · exact ⟨Nat.zero_le _, fun q hq => absurd hq (Nat.not_lt_zero _)⟩
                · skip
                  refine GE_seq ?_
                  refine GE_slots (L' := [(0, _), (1, _), (2, _), (12, _), (13, _), (15, _), (16, _), (18, _), (19, _), (20, _), (21, _), (22, _), (23, _), (24, _), (25, _)]) ⟨rfl, rfl, rfl, rfl, rfl, rfl, rfl, rfl, rfl, rfl, rfl, rfl, rfl, rfl, rfl, trivial⟩ ?_
                  refine GE_plain (.st 0 (.st 1 (.st 2 (.st 3 (.st 4 (.st 5 (.st 6 (.st 7 (.st 8 (.st 9 (.st 10 (.st 11 (.st 12 (.st 13 (.st 14 (.st 15 (.st 16 (.ld 17 [] (.st 18 (.st 19 (.st 20 (.st 21 (.st 22 (.ld 23 [] (.st 24 (.st 25 (.st 26 (.st 27 (.st 28 (.st 29 (.st 30 (.st 31 (.ld 32 [] (.st 33 (.st 34 (.st 35 (.st 36 (.ld 37 [] (.st 38 (.st 39 (.st 40 (.st 41 .nil)))))))))))))))))))))))))))))))))))))))))) rfl ?_
                  refine GT_st rfl rfl rfl rfl (V_move rfl rfl) ?_
                  refine GT_st rfl rfl rfl rfl (V_isF (V_neq rfl rfl rfl) (by decide)) ?_
                  refine GT_st rfl rfl rfl rfl (V_move rfl rfl) ?_
                  refine GT_st_g rfl rfl rfl rfl rfl rfl rfl (V_move rfl rfl) ?_
                  refine GT_st_g rfl rfl rfl rfl rfl rfl rfl (V_isF (V_neq rfl rfl rfl) (by decide)) ?_
                  refine GT_st rfl rfl rfl rfl (V_pick_f rfl rfl rfl) ?_
                  refine GT_st rfl rfl rfl rfl (V_move rfl rfl) ?_
                  refine GT_st_g rfl rfl rfl rfl rfl rfl rfl (V_move rfl rfl) ?_
                  refine GT_st_g rfl rfl rfl rfl rfl rfl rfl (V_isF (V_neq rfl rfl rfl) (by decide)) ?_
                  refine GT_st rfl rfl rfl rfl (V_pick_f rfl rfl rfl) ?_
                  refine GT_st rfl rfl rfl rfl (V_move rfl rfl) ?_
                  refine GT_st_g rfl rfl rfl rfl rfl rfl rfl (V_move rfl rfl) ?_
                  refine GT_st_g rfl rfl rfl rfl rfl rfl rfl (V_isF (V_neq rfl rfl rfl) (by decide)) ?_
                  refine GT_st rfl rfl rfl rfl (V_pick_f rfl rfl rfl) ?_
                  refine GT_st rfl rfl rfl rfl (V_move rfl rfl) ?_
                  refine GT_st_g rfl rfl rfl rfl rfl rfl rfl (V_move rfl rfl) ?_
                  refine GT_st_g rfl rfl rfl rfl rfl rfl rfl (V_move rfl rfl) ?_
                  refine GT_call0_g rfl rfl rfl rfl rfl rfl rfl rfl rfl rfl rfl rn_26 (fun w hw => C_within (hec.rdH eI_len hw) (hu2.rdH eI_len hw) (by omega) (by omega)) (GR_nil) ?_
                  rw [hw1]
                  first | refine GT_st_g rfl rfl rfl rfl rfl rfl rfl (V_not rfl rfl) ?_ | refine GT_st_g rfl rfl rfl rfl rfl rfl rfl (V_notB rfl rfl) ?_
                  refine GT_st rfl rfl rfl rfl (V_pick_f rfl rfl rfl) ?_
                  refine GT_st rfl rfl rfl rfl (V_move rfl rfl) ?_
                  refine GT_st_g rfl rfl rfl rfl rfl rfl rfl (V_move rfl rfl) ?_
                  refine GT_st_g rfl rfl rfl rfl rfl rfl rfl (V_move rfl rfl) ?_
                  refine GT_call0_g rfl rfl rfl rfl rfl rfl rfl rfl rfl rfl rfl rn_26 (fun w hw => C_within (hu2.rdH eI_len hw) (hfp.rdH eI_len hw) (by omega) (by omega)) (GR_nil) ?_
                  rw [hw2]
                  first | refine GT_st_g rfl rfl rfl rfl rfl rfl rfl (V_not rfl rfl) ?_ | refine GT_st_g rfl rfl rfl rfl rfl rfl rfl (V_notB rfl rfl) ?_
                  refine GT_st rfl rfl rfl rfl (V_pick_f rfl rfl rfl) ?_
                  refine GT_st rfl rfl rfl rfl (V_move rfl rfl) ?_
                  refine GT_st_g rfl rfl rfl rfl rfl rfl rfl (V_move rfl rfl) ?_
                  refine GT_st_g rfl rfl rfl rfl rfl rfl rfl (V_eql rfl rfl rfl) ?_
                  refine GT_st_g rfl rfl rfl rfl rfl rfl rfl (V_move rfl rfl) ?_
                  first | refine GT_splitNot (d := 160) rfl (fun h7 => ?_) (fun h7 => ?_) | refine GT_split (d := 160) rfl (fun h7 => ?_) (fun h7 => ?_) | refine GT_splitNotB (d := 160) rfl (fun h7 => ?_) (fun h7 => ?_) | refine GT_splitB (d := 160) rfl (fun h7 => ?_) (fun h7 => ?_)
                  · have hsm := cert_same (d := d) hx0l (left_full hR.dsok hx0l (hfull h7)); have hs1e : (certS d (leftS p d side hs1) == hasS d x0) = true := (by rw [hsm.1]; simp); have hs2e : (possS d (leftS p d side hs1) == hasS d x0) = true := (by rw [hsm.2]; simp)
                    refine GT_st_g rfl rfl rfl rfl rfl rfl rfl (V_move rfl rfl) ?_
                    refine GT_st_g rfl rfl rfl rfl rfl rfl rfl (V_move rfl rfl) ?_
                    refine GT_call0_g rfl rfl rfl rfl rfl rfl rfl rfl rfl rfl rfl rn_23 (fun w hw => C_Same (hec.rdH eI_len hw) (hu2.rdH eI_len hw) (by omega)) (GR_nil) ?_
                    rw [hs1e]
                    first | refine GT_st_g rfl rfl rfl rfl rfl rfl rfl (V_not rfl rfl) ?_ | refine GT_st_g rfl rfl rfl rfl rfl rfl rfl (V_notB rfl rfl) ?_
                    refine GT_st_g rfl rfl rfl rfl rfl rfl rfl (V_move rfl rfl) ?_
                    refine GT_st_g rfl rfl rfl rfl rfl rfl rfl (V_move rfl rfl) ?_
                    refine GT_st_g rfl rfl rfl rfl rfl rfl rfl (V_move rfl rfl) ?_
                    refine GT_call0_g rfl rfl rfl rfl rfl rfl rfl rfl rfl rfl rfl rn_23 (fun w hw => C_Same (hfp.rdH eI_len hw) (hu2.rdH eI_len hw) (by omega)) (GR_nil) ?_
                    rw [hs2e]
                    first | refine GT_st_g rfl rfl rfl rfl rfl rfl rfl (V_not rfl rfl) ?_ | refine GT_st_g rfl rfl rfl rfl rfl rfl rfl (V_notB rfl rfl) ?_
                    refine GT_st_g rfl rfl rfl rfl rfl rfl rfl (V_pick_f rfl rfl rfl) ?_
                    refine GT_st_g rfl rfl rfl rfl rfl rfl rfl (V_pick_t rfl rfl rfl) ?_
                    refine GT_st rfl rfl rfl rfl (V_pick_f rfl rfl rfl) ?_
                    refine GT_nil ?_
                    refine GE_cond_f rfl ?_
                    refine GE_skip ?_
                    exact GE_to (hk25 () trivial) ⟨rfl, rfl, rfl, rfl, rfl, rfl, rfl, rfl, rfl, trivial⟩ (HS.cons rfl (HS.chunk (HS.chunk (HS.chunk HS.last))))
                  · skip
                    refine GT_skip rfl rfl rfl rfl rfl (by decide) rfl rfl ?_
                    refine GT_skip rfl rfl rfl rfl rfl (by decide) rfl rfl ?_
                    refine GT_skip_ld rfl rfl rfl rfl rfl (by decide) rfl rfl rfl (GR_nil) ?_
                    refine GT_skip rfl rfl rfl rfl rfl (by decide) rfl rfl ?_
                    refine GT_skip rfl rfl rfl rfl rfl (by decide) rfl rfl ?_
                    refine GT_skip rfl rfl rfl rfl rfl (by decide) rfl rfl ?_
                    refine GT_skip rfl rfl rfl rfl rfl (by decide) rfl rfl ?_
                    refine GT_skip_ld rfl rfl rfl rfl rfl (by decide) rfl rfl rfl (GR_nil) ?_
                    refine GT_skip rfl rfl rfl rfl rfl (by decide) rfl rfl ?_
                    refine GT_skip rfl rfl rfl rfl rfl (by decide) rfl rfl ?_
                    refine GT_st_g rfl rfl rfl rfl rfl rfl rfl (V_pick_f rfl rfl rfl) ?_
                    refine GT_st rfl rfl rfl rfl (V_pick_f rfl rfl rfl) ?_
                    refine GT_nil ?_
                    refine GE_cond_f rfl ?_
                    refine GE_skip ?_
                    exact GE_to (hk25 () trivial) ⟨rfl, rfl, rfl, rfl, rfl, rfl, rfl, rfl, rfl, trivial⟩ (HS.cons rfl (HS.chunk (HS.chunk (HS.chunk HS.last))))
              · skip
                refine GE_seq ?_
                refine GE_plain (.st 0 (.st 1 .nil)) rfl ?_
                refine GT_st rfl rfl rfl rfl (V_move rfl rfl) ?_
                refine GT_st rfl rfl rfl rfl (V_eql rfl rfl rfl) ?_
                refine GT_nil ?_
                first | refine GE_condNot rfl (fun h6 => ?_) (fun h6 => ?_) | refine GE_cond rfl (fun h6 => ?_) (fun h6 => ?_) | refine GE_condNotB rfl (fun h6 => ?_) (fun h6 => ?_) | refine GE_condB rfl (fun h6 => ?_) (fun h6 => ?_)
                · skip
                  refine GE_seq ?_
                  refine GE_slots (L' := [(0, _), (1, _), (2, _), (12, _), (13, _), (15, _), (16, _)]) ⟨rfl, rfl, rfl, rfl, rfl, rfl, rfl, trivial⟩ ?_
                  refine GE_plain (.st 0 .nil) rfl ?_
                  refine GT_st rfl rfl rfl rfl (V_assign rfl rfl) ?_
                  refine GT_nil ?_
                  refine GE_block ?_
                  refine GE_to (GE_loop (ι := Nat × List Hrg × Option Addr × Nat × Items) (fun z => d.length - z.1) (fun z => [(0, .slice A p.length c), (1, .slice A2 d.length c2), (2, I side), (12, ptr b12 0), (13, .slice u.1 (hasS d x0).length u.2.1), (15, .slice z.2.2.1 z.2.1.length z.2.2.2.1), (16, I n), (17, I z.1)]) (fun z => (b12, blk [I x0.plate, I x0.frm] 46) :: (z.2.2.2.2 ++ u.2.2)) (fun z => z.1 ≤ d.length ∧ z.2.1.length = hs.length + z.1 ∧ GoodH d x0 z.2.1 ∧ (∀ i, i < z.1 → ∃ y ∈ z.2.1, y.ser = (d.getD i default).ser) ∧ Own 2 61 eHrg z.2.1 (.slice z.2.2.1 z.2.1.length z.2.2.2.1) z.2.2.2.2) ?_ (0, hs, A', c', I') ?_) ⟨rfl, rfl, rfl, rfl, rfl, rfl, rfl, rfl, trivial⟩ HS.all
                  · rintro ⟨k, hs2, A2', c2', I2'⟩ ⟨hk, hsl2, hgd2, hall2, hO2⟩ ih4; dsimp only at hk hsl2 hgd2 hall2 hO2 ih4 ⊢
                    refine GE_seq ?_
                    refine GE_seq ?_
                    refine GE_plain (.st 0 (.st 1 (.st 2 (.st 3 .nil)))) rfl ?_
                    refine GT_st rfl rfl rfl rfl (V_move rfl rfl) ?_
                    refine GT_st rfl rfl rfl rfl (V_move rfl rfl) ?_
                    refine GT_st rfl rfl rfl rfl (V_len rfl Try.underlying37 rfl) ?_
                    refine GT_st rfl rfl rfl rfl (V_lss rfl rfl rfl) ?_
                    refine GT_nil ?_
                    first | refine GE_condNot rfl (fun h12 => ?_) (fun h12 => ?_) | refine GE_cond rfl (fun h12 => ?_) (fun h12 => ?_) | refine GE_condNotB rfl (fun h12 => ?_) (fun h12 => ?_) | refine GE_condB rfl (fun h12 => ?_) (fun h12 => ?_)
                    · have hkl : k < d.length := (by omega)
                      refine GE_skip ?_
                      refine GE_seq ?_
                      refine GE_block ?_
                      refine GE_slots (L' := [(0, _), (1, _), (2, _), (12, _), (13, _), (15, _), (16, _), (17, _)]) ⟨rfl, rfl, rfl, rfl, rfl, rfl, rfl, rfl, trivial⟩ ?_
                      refine GE_drawn (.st 0 (.st 1 (.st 2 (.st 3 (.st 4 (.st 5 (.st 6 (.st 7 (.st 8 (.st 9 (.st 10 (.st 11 (.ld 12 [0, 1, 2, 3, 4, 5] (.st 13 (.ld 14 [0] (.ld 15 [] (.ld 16 [] .nil))))))))))))))))) [12, 14, 15, 16] (by decide +kernel) ?_
                      refine GT_st rfl rfl rfl rfl (V_move rfl rfl) ?_
                      refine GT_st rfl rfl rfl rfl (V_move rfl rfl) ?_
                      refine GT_st rfl rfl rfl rfl (V_move rfl rfl) ?_
                      refine GT_st rfl rfl rfl rfl (V_index rfl rfl rfl Try.underlying37 sz_50 (k := k) rfl hkl (hd.isSome hkl)) ?_
                      first | refine GT_st rfl rfl rfl rfl (V_field rfl rfl fo_50_0) ?_ | refine GT_st rfl rfl rfl rfl (V_fieldA rfl rfl fo_50_0) ?_
                      refine GT_st rfl rfl rfl rfl (V_load rfl rfl ag_2 (hd.at0 noM hkl rfl)) ?_
                      refine GT_st rfl rfl rfl rfl (V_move rfl rfl) ?_
                      refine GT_st rfl rfl rfl rfl (V_move rfl rfl) ?_
                      refine GT_st rfl rfl rfl rfl (V_move rfl rfl) ?_
                      refine GT_st rfl rfl rfl rfl (V_index rfl rfl rfl Try.underlying37 sz_50 (k := k) rfl hkl (hd.isSome hkl)) ?_
                      first | refine GT_st rfl rfl rfl rfl (V_field rfl rfl fo_50_0) ?_ | refine GT_st rfl rfl rfl rfl (V_fieldA rfl rfl fo_50_0) ?_
                      refine GT_st rfl rfl rfl rfl (V_load rfl rfl ag_2 (hd.at0 noM hkl rfl)) ?_
                      refine GT_call0 rfl rfl rfl rfl rfl rfl rfl rfl rn_24 (fun w hw => C_among (hu2.rdH eI_len hw) (by omega)) (GR_cons rfl rfl rfl rfl (V_move rfl rfl) (GR_cons rfl rfl rfl rfl (V_move rfl rfl) (GR_cons rfl rfl rfl rfl (V_move rfl rfl) (GR_cons rfl rfl rfl rfl (V_index rfl rfl rfl Try.underlying37 sz_50 (k := k) rfl hkl (hd.isSome hkl)) (GR_cons rfl rfl rfl rfl ((by first | exact V_field rfl rfl fo_50_0 | exact V_fieldA rfl rfl fo_50_0)) (GR_cons rfl rfl rfl rfl (V_load rfl rfl ag_2 (hd.at0 noM hkl rfl)) (GR_nil))))))) ?_
                      rw [contains_has hR.dsok hkl]
                      refine GT_st rfl rfl rfl rfl (V_build (vs := [_, _]) rfl rfl zc_61 pl_61 sa_61 rfl) ?_
                      refine GT_buildSlice (z := [_, _]) rfl rfl rfl rfl rfl Try.underlying54 zc_61 sz_61 (by decide) rfl rfl (fun _ => GR_cons rfl rfl rfl rfl (V_move rfl rfl) (GR_nil)) (fun b97 => ?_)
                      refine GT_append (enc := eHrg) (m := [⟨(d.getD k default).ser, x0.has.getD k default⟩]) rfl rfl rfl rfl rfl rfl rfl hO2 (fun w m => RdL.own' m eHrg_len) Try.underlying54 zc_61 sz_61 ⟨rfl, by decide⟩ by_61 ⟨by simp only [List.length_singleton]; omega, by simp only [List.length_singleton]; omega⟩ eHrg_len eHrg_one (fun _ _ _ _ => GR_nil) (fun A3' c3' I3' hO3 => ?_)
                      refine GT_ldv rfl rfl rfl rfl rfl (V_assign rfl rfl) (GR_nil) ?_
                      refine GT_nil ?_
                      refine GE_inBlock ?_
                      refine GE_slots (L' := [(0, _), (1, _), (2, _), (12, _), (13, _), (15, _), (16, _), (17, _)]) ⟨rfl, rfl, rfl, rfl, rfl, rfl, rfl, rfl, trivial⟩ ?_
                      refine GE_plain (.st 0 (.st 1 (.ld 2 [] .nil))) rfl ?_
                      refine GT_st rfl rfl rfl rfl (V_move rfl rfl) ?_
                      refine GT_st rfl rfl rfl rfl (V_add rfl rfl rfl (wrap_i64 (by omega))) ?_
                      refine GT_ldv rfl rfl rfl rfl rfl (V_assign rfl rfl) (GR_nil) ?_
                      refine GT_nil ?_
                      exact GE_to (ih4 (k + 1, _, A3', c3', I3') ⟨by dsimp only; omega, by dsimp only; rw [List.length_append, List.length_singleton, hsl2]; omega, hgd2.snoc hkl, fun i hi => by rcases Nat.lt_or_ge i k with r | r; obtain ⟨y, hy, e⟩ := hall2 i r; exact ⟨y, List.mem_append_left _ hy, e⟩; exact ⟨_, List.mem_append_right _ (List.mem_singleton.2 rfl), by rw [show i = k by dsimp only at hi; omega]⟩, hO3⟩ (by dsimp only; omega)) ⟨rfl, rfl, rfl, rfl, rfl, rfl, rfl, rfl, trivial⟩ (HS.cons rfl (HS.chunk HS.last))
                    · obtain rfl : k = d.length := (by omega)
                      refine GE_exit rfl ?_
                      first
                        | exact GE_to (hk19 (hs, A', c', I') ⟨by dsimp only; omega, hgd, fun q => absurd q h6, hO⟩) ⟨rfl, rfl, rfl, rfl, rfl, rfl, rfl, trivial⟩ (HS.cons rfl (HS.chunk HS.last))
                        | exact GE_to (hk19 (hs2, A2', c2', I2') ⟨by dsimp only; omega, hgd2, fun _ i hi => hall2 i hi, hO2⟩) ⟨rfl, rfl, rfl, rfl, rfl, rfl, rfl, trivial⟩ (HS.cons rfl (HS.chunk HS.last))
                  · exact ⟨Nat.zero_le _, rfl, hgd, fun i hi => absurd hi (Nat.not_lt_zero _), hO⟩
                · skip
                  refine GE_skip ?_
                  first
                    | exact GE_to (hk19 (hs, A', c', I') ⟨by dsimp only; omega, hgd, fun q => absurd q h6, hO⟩) ⟨rfl, rfl, rfl, rfl, rfl, rfl, rfl, trivial⟩ (HS.cons rfl (HS.chunk HS.last))
                    | exact GE_to (hk19 (hs2, A2', c2', I2') ⟨by dsimp only; omega, hgd2, fun _ i hi => hall2 i hi, hO2⟩) ⟨rfl, rfl, rfl, rfl, rfl, rfl, rfl, trivial⟩ (HS.cons rfl (HS.chunk HS.last))
            · skip
              refine GE_exit rfl ?_
              refine GE_seq ?_
              refine GE_slots (L' := []) trivial ?_
              refine GE_plain (.ld 0 [] (.st 1 .nil)) rfl ?_
              refine GT_call0 rfl rfl rfl rfl rfl rfl rfl rfl rn_13 (fun w hw => C_law09_Works) (GR_nil) ?_
              refine GT_st rfl rfl rfl rfl (V_assign rfl rfl) ?_
              refine GT_nil ?_
              refine GE_ret Try.func9 rfl (fun w hw => ⟨?_, hw.nil⟩)
              rfl
          · exact ⟨Nat.zero_le _, by dsimp only; omega, ht2, ht3⟩
end
end Go.Proofs.Ytfaggcmcfhljpaa
