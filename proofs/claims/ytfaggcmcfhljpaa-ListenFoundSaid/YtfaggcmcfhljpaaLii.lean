/- ListenNext and ListenFound, walked. -/
import Derived.Test.YtfaggcmcfhljpaaLih
namespace Go.Proofs.Ytfaggcmcfhljpaa
open Go.Sx Go.Proofs

section
variable {p : List Plt} {d : List Dsc} {h : List Hrg} {A A2 A3 A5 : Option Addr} {c c2 c3 c5 : Nat} {side : Int} {w : World}
set_option maxRecDepth 10000 in
set_option maxHeartbeats 4000000 in
theorem L_ListenNext {x : Int} (hp : RdL w 7 ePlt A p) (hxp : p.length ≤ c ∧ c ≤ maxLen ∧ ∀ x ∈ p, Plt.wf x) (hd : RdL w 7 eDsc A2 d) (hxd : d.length ≤ c2 ∧ c2 ≤ maxLen ∧ ∀ x ∈ d, Dsc.wf x) (_ : (Lit.int .i64 side).wf = true) (hh : RdL w 2 eHrg A5 h) (_ : h.length ≤ c5 ∧ c5 ≤ maxLen ∧ ∀ x ∈ h, Hrg.wf x) (hxw : (Lit.int .u8 x).wf = true) :
    Con0 Try.prog 7 [.slice A p.length c, .slice A2 d.length c2, I side, .slice A5 h.length c5, .int .u8 x] w (.bool true) := by
  have hwf := hxp.2.2
  have hdf := hxd.2.2
  have hx := u8_of hxw
  refine Ret_of (vs := [_, _, _, _, _]) hm none' Try.func7 rfl Try.ntmps7 rfl ?_
  dsimp only [slotsOf]
  refine GE_seq ?_
  refine GE_plain (.st 0 .nil) rfl ?_
  refine GT_st rfl rfl rfl rfl (V_assign rfl rfl) ?_
  refine GT_nil ?_
  refine GE_seq ?_
  refine GE_seq ?_
  refine GE_plain (.st 0 (.st 1 (.st 2 (.ld 3 [] (.st 4 (.st 5 (.st 6 (.st 7 (.st 8 (.st 9 (.st 10 (.st 11 (.st 12 (.st 13 (.st 14 .nil))))))))))))))) rfl ?_
  refine GT_st rfl rfl rfl rfl (V_move rfl rfl) ?_
  refine GT_st rfl rfl rfl rfl (V_move rfl rfl) ?_
  refine GT_st rfl rfl rfl rfl (V_move rfl rfl) ?_
  refine GT_call0 rfl rfl rfl rfl rfl rfl rfl rfl rn_20 (fun w hw => C_small (hp.sh hw) hwf (hd.sh hw) hdf) (GR_nil) ?_
  first | refine GT_st rfl rfl rfl rfl (V_not rfl rfl) ?_ | refine GT_st rfl rfl rfl rfl (V_notB rfl rfl) ?_
  refine GT_st rfl rfl rfl rfl (V_move rfl rfl) ?_
  first | refine GT_splitNot (d := 28) rfl (fun h1 => ?_) (fun h1 => ?_) | refine GT_split (d := 28) rfl (fun h1 => ?_) (fun h1 => ?_) | refine GT_splitNotB (d := 28) rfl (fun h1 => ?_) (fun h1 => ?_) | refine GT_splitB (d := 28) rfl (fun h1 => ?_) (fun h1 => ?_)
  · skip
    refine GT_skip rfl rfl rfl rfl rfl (by decide) rfl rfl ?_
    refine GT_skip rfl rfl rfl rfl rfl (by decide) rfl rfl ?_
    refine GT_skip rfl rfl rfl rfl rfl (by decide) rfl rfl ?_
    refine GT_st rfl rfl rfl rfl (V_pick_t rfl rfl rfl) ?_
    refine GT_st rfl rfl rfl rfl (V_move rfl rfl) ?_
    refine GT_skip rfl rfl rfl rfl rfl (by decide) rfl rfl ?_
    refine GT_skip rfl rfl rfl rfl rfl (by decide) rfl rfl ?_
    refine GT_skip rfl rfl rfl rfl rfl (by decide) rfl rfl ?_
    refine GT_st rfl rfl rfl rfl (V_pick_t rfl rfl rfl) ?_
    refine GT_nil ?_
    refine GE_cond_t rfl ?_
    refine GE_seq ?_
    refine GE_slots (L' := []) trivial ?_
    refine GE_plain (.ld 0 [] (.st 1 .nil)) rfl ?_
    refine GT_call0 rfl rfl rfl rfl rfl rfl rfl rfl rn_13 (fun w hw => C_law09_Works) (GR_nil) ?_
    refine GT_st rfl rfl rfl rfl (V_assign rfl rfl) ?_
    refine GT_nil ?_
    refine GE_ret Try.func7 rfl (fun w hw => ⟨?_, hw.nil⟩)
    rfl
  · obtain ⟨hpl, hdl, hR⟩ := of_small h1
    refine GT_st_g rfl rfl rfl rfl rfl rfl rfl (V_move rfl rfl) ?_
    refine GT_st_g rfl rfl rfl rfl rfl rfl rfl (V_len rfl Try.underlying54 rfl) ?_
    refine GT_st_g rfl rfl rfl rfl rfl rfl rfl (V_gtr rfl rfl rfl) ?_
    refine GT_st rfl rfl rfl rfl (V_pick_f rfl rfl rfl) ?_
    refine GT_st rfl rfl rfl rfl (V_move rfl rfl) ?_
    first | refine GT_splitNot (d := 33) rfl (fun h2 => ?_) (fun h2 => ?_) | refine GT_split (d := 33) rfl (fun h2 => ?_) (fun h2 => ?_) | refine GT_splitNotB (d := 33) rfl (fun h2 => ?_) (fun h2 => ?_) | refine GT_splitB (d := 33) rfl (fun h2 => ?_) (fun h2 => ?_)
    · skip
      refine GT_skip rfl rfl rfl rfl rfl (by decide) rfl rfl ?_
      refine GT_skip rfl rfl rfl rfl rfl (by decide) rfl rfl ?_
      refine GT_skip rfl rfl rfl rfl rfl (by decide) rfl rfl ?_
      refine GT_st rfl rfl rfl rfl (V_pick_t rfl rfl rfl) ?_
      refine GT_nil ?_
      refine GE_cond_t rfl ?_
      refine GE_seq ?_
      refine GE_slots (L' := []) trivial ?_
      refine GE_plain (.ld 0 [] (.st 1 .nil)) rfl ?_
      refine GT_call0 rfl rfl rfl rfl rfl rfl rfl rfl rn_13 (fun w hw => C_law09_Works) (GR_nil) ?_
      refine GT_st rfl rfl rfl rfl (V_assign rfl rfl) ?_
      refine GT_nil ?_
      refine GE_ret Try.func7 rfl (fun w hw => ⟨?_, hw.nil⟩)
      rfl
    · have hhl : h.length ≤ 15 := (by omega)
      refine GT_st_g rfl rfl rfl rfl rfl rfl rfl (V_move rfl rfl) ?_
      refine GT_st_g rfl rfl rfl rfl rfl rfl rfl (V_len rfl Try.underlying37 rfl) ?_
      refine GT_st_g rfl rfl rfl rfl rfl rfl rfl (V_eql rfl rfl rfl) ?_
      refine GT_st rfl rfl rfl rfl (V_pick_f rfl rfl rfl) ?_
      refine GT_nil ?_
      first | refine GE_condNot rfl (fun h3 => ?_) (fun h3 => ?_) | refine GE_cond rfl (fun h3 => ?_) (fun h3 => ?_) | refine GE_condNotB rfl (fun h3 => ?_) (fun h3 => ?_) | refine GE_condB rfl (fun h3 => ?_) (fun h3 => ?_)
      · skip
        refine GE_seq ?_
        refine GE_slots (L' := []) trivial ?_
        refine GE_plain (.ld 0 [] (.st 1 .nil)) rfl ?_
        refine GT_call0 rfl rfl rfl rfl rfl rfl rfl rfl rn_13 (fun w hw => C_law09_Works) (GR_nil) ?_
        refine GT_st rfl rfl rfl rfl (V_assign rfl rfl) ?_
        refine GT_nil ?_
        refine GE_ret Try.func7 rfl (fun w hw => ⟨?_, hw.nil⟩)
        rfl
      · have hd0 : 0 < d.length := (by omega)
        refine GE_skip ?_
        refine GE_seq ?_
        refine GE_slots (L' := [(0, _), (1, _), (2, _), (3, _), (4, _)]) ⟨rfl, rfl, rfl, rfl, rfl, trivial⟩ ?_
        refine GE_plain (.st 0 (.st 1 (.st 2 (.st 3 (.ld 4 [] (.st 5 (.st 6 (.st 7 (.st 8 (.st 9 .nil)))))))))) rfl ?_
        refine GT_st rfl rfl rfl rfl (V_move rfl rfl) ?_
        refine GT_st rfl rfl rfl rfl (V_move rfl rfl) ?_
        refine GT_st rfl rfl rfl rfl (V_move rfl rfl) ?_
        refine GT_st rfl rfl rfl rfl (V_move rfl rfl) ?_
        refine GT_call rfl rfl rfl rfl rfl rfl rfl rfl rn_21 (fun w hw => C_Causes (hp.sh hw) hwf (hd.sh hw) hdf (hh.sh hw)) (fun _ _ => GR_nil) (fun y hy => ?_)
        refine GT_st rfl rfl rfl rfl (V_move rfl rfl) ?_
        refine GT_st rfl rfl rfl rfl (V_extract rfl rfl rfl) ?_
        refine GT_st rfl rfl rfl rfl (V_extract rfl rfl rfl) ?_
        refine GT_st rfl rfl rfl rfl (V_assign rfl rfl) ?_
        refine GT_st rfl rfl rfl rfl (V_assign rfl rfl) ?_
        refine GT_nil ?_
        refine GE_seq ?_
        refine GE_seq ?_
        refine GE_slots (L' := [(0, _), (1, _), (2, _), (3, _), (4, _), (11, _), (12, _)]) ⟨rfl, rfl, rfl, rfl, rfl, rfl, rfl, trivial⟩ ?_
        refine GE_plain (.st 0 (.st 1 .nil)) rfl ?_
        refine GT_st rfl rfl rfl rfl (V_move rfl rfl) ?_
        refine GT_st rfl rfl rfl rfl (V_neq rfl rfl rfl) ?_
        refine GT_nil ?_
        first | refine GE_condNot rfl (fun he => ?_) (fun he => ?_) | refine GE_cond rfl (fun he => ?_) (fun he => ?_) | refine GE_condNotB rfl (fun he => ?_) (fun he => ?_) | refine GE_condB rfl (fun he => ?_) (fun he => ?_)
        · have h5 := hearE_five hR (by omega) he
          refine GE_seq ?_
          refine GE_slots (L' := [(12, _)]) ⟨rfl, trivial⟩ ?_
          refine GE_plain (.st 0 (.st 1 (.st 2 (.ld 3 [] (.st 4 (.st 5 .nil)))))) rfl ?_
          refine GT_st rfl rfl rfl rfl (V_move rfl rfl) ?_
          refine GT_st rfl rfl rfl rfl (V_isT (V_eql rfl rfl rfl) h5) ?_
          refine GT_st rfl rfl rfl rfl (V_move rfl rfl) ?_
          refine GT_call0_g rfl rfl rfl rfl rfl rfl rfl rfl rfl rfl rfl rn_13 (fun w hw => C_law09_Works) (GR_nil) ?_
          refine GT_st rfl rfl rfl rfl (V_pick_t rfl rfl rfl) ?_
          refine GT_st rfl rfl rfl rfl (V_assign rfl rfl) ?_
          refine GT_nil ?_
          refine GE_ret Try.func7 rfl (fun w hw => ⟨?_, hw.nil⟩)
          rfl
        · have hcl : causL p d side h = (leftS p d side h).map Sus.cau := if_pos he; rw [hcl] at hy ⊢; have hle := leftS_le (h := h) hR; have hml : ((leftS p d side h).map Sus.cau).length = (leftS p d side h).length := List.length_map ..
          refine GE_skip ?_
          refine GE_seq ?_
          refine GE_plain (.st 0 (.st 1 (.st 2 (.st 3 (.ld 4 [] (.st 5 (.st 6 (.st 7 (.st 8 (.st 9 (.st 10 (.st 11 .nil)))))))))))) rfl ?_
          refine GT_st rfl rfl rfl rfl (V_move rfl rfl) ?_
          refine GT_st rfl rfl rfl rfl (V_move rfl rfl) ?_
          refine GT_st rfl rfl rfl rfl (V_move rfl rfl) ?_
          refine GT_st rfl rfl rfl rfl (V_move rfl rfl) ?_
          refine GT_call0 rfl rfl rfl rfl rfl rfl rfl rfl rn_27 (fun w hw => C_Next (hp.sh hw) hwf (hd.sh hw) hdf (hh.sh hw)) (GR_nil) ?_
          rw [show nextE p d side h = nextR d (leftS p d side h) from if_pos he]
          refine GT_st rfl rfl rfl rfl (V_move rfl rfl) ?_
          refine GT_st rfl rfl rfl rfl (V_extract rfl rfl rfl) ?_
          refine GT_st rfl rfl rfl rfl (V_extract rfl rfl rfl) ?_
          refine GT_st rfl rfl rfl rfl (V_extract rfl rfl rfl) ?_
          refine GT_st rfl rfl rfl rfl (V_assign rfl rfl) ?_
          refine GT_st rfl rfl rfl rfl (V_assign rfl rfl) ?_
          refine GT_st rfl rfl rfl rfl (V_assign rfl rfl) ?_
          refine GT_nil ?_
          refine GE_seq ?_
          refine GE_seq ?_
          refine GE_slots (L' := [(0, _), (1, _), (2, _), (3, _), (4, _), (11, _), (13, _), (14, _), (15, _)]) ⟨rfl, rfl, rfl, rfl, rfl, rfl, rfl, rfl, rfl, trivial⟩ ?_
          refine GE_plain (.st 0 (.st 1 .nil)) rfl ?_
          refine GT_st rfl rfl rfl rfl (V_move rfl rfl) ?_
          refine GT_st rfl rfl rfl rfl (V_neq rfl rfl rfl) ?_
          refine GT_nil ?_
          first | refine GE_condNot rfl (fun hc => ?_) (fun hc => ?_) | refine GE_cond rfl (fun hc => ?_) (fun hc => ?_) | refine GE_condNotB rfl (fun hc => ?_) (fun hc => ?_) | refine GE_condB rfl (fun hc => ?_) (fun hc => ?_)
          · have hsm := nextR_code hc; rw [nextR_same hsm]
            refine GE_seq ?_
            refine GE_seq ?_
            refine GE_slots (L' := [(0, _), (1, _), (2, _), (11, _), (15, _)]) ⟨rfl, rfl, rfl, rfl, rfl, trivial⟩ ?_
            refine GE_plain (.st 0 .nil) rfl ?_
            refine GT_st rfl rfl rfl rfl (V_assign rfl rfl) ?_
            refine GT_nil ?_
            refine GE_block ?_
            refine GE_to (GE_loop (ι := Nat) (fun i => (leftS p d side h).length - i) (fun i => [(0, .slice A p.length c), (1, .slice A2 d.length c2), (2, I side), (11, .slice y.1 ((leftS p d side h).map Sus.cau).length y.2.1), (15, I 15), (16, I i)]) (fun i => y.2.2) (fun i => 1 ≤ i) ?_ 1 ?_) ⟨rfl, rfl, rfl, rfl, rfl, rfl, trivial⟩ HS.last
            · intro i hi1 ih
              refine GE_seq ?_
              refine GE_seq ?_
              refine GE_plain (.st 0 (.st 1 (.st 2 (.st 3 .nil)))) rfl ?_
              refine GT_st rfl rfl rfl rfl (V_move rfl rfl) ?_
              refine GT_st rfl rfl rfl rfl (V_move rfl rfl) ?_
              refine GT_st rfl rfl rfl rfl (V_len rfl Try.underlying39 rfl) ?_
              refine GT_st rfl rfl rfl rfl (V_lss rfl rfl rfl) ?_
              refine GT_nil ?_
              first | refine GE_condNot rfl (fun h4 => ?_) (fun h4 => ?_) | refine GE_cond rfl (fun h4 => ?_) (fun h4 => ?_) | refine GE_condNotB rfl (fun h4 => ?_) (fun h4 => ?_) | refine GE_condB rfl (fun h4 => ?_) (fun h4 => ?_)
              · have hil : i < (leftS p d side h).length := (by omega); have hil1 : i - 1 < (leftS p d side h).length := (by omega); have hxi := mem_getD hil; have hxj := mem_getD hil1; have hgi := cau_get hil; have hgj := cau_get hil1; have hsx := same_eq hsm hxj hxi; have hss : (hasS d ((leftS p d side h).getD (i - 1) default) == hasS d ((leftS p d side h).getD i default)) = true := (by rw [beq_iff_eq]; unfold hasS; rw [hsx]); have hl1 := hasS_le (d := d) (x := (leftS p d side h).getD (i - 1) default)
                refine GE_skip ?_
                refine GE_seq ?_
                refine GE_block ?_
                refine GE_seq ?_
                refine GE_slots (L' := [(0, _), (1, _), (2, _), (11, _), (15, _), (16, _)]) ⟨rfl, rfl, rfl, rfl, rfl, rfl, trivial⟩ ?_
                refine GE_plain (.st 0 (.st 1 (.st 2 (.st 3 (.st 4 (.st 5 (.st 6 (.st 7 (.ld 8 [] (.st 9 (.st 10 (.st 11 (.st 12 (.st 13 .nil)))))))))))))) rfl ?_
                refine GT_st rfl rfl rfl rfl (V_move rfl rfl) ?_
                refine GT_st rfl rfl rfl rfl (V_move rfl rfl) ?_
                refine GT_st rfl rfl rfl rfl (V_move rfl rfl) ?_
                refine GT_st rfl rfl rfl rfl (V_move rfl rfl) ?_
                refine GT_st rfl rfl rfl rfl (V_move rfl rfl) ?_
                refine GT_st rfl rfl rfl rfl (V_sub rfl rfl rfl (wrap_i64 (by omega))) ?_
                refine GT_st rfl rfl rfl rfl (V_index rfl rfl rfl Try.underlying39 sz_46 (k := i - 1) (by omega) (by omega) (hy.isSome (k := i) (by omega))) ?_
                refine GT_st rfl rfl rfl rfl (V_loadN (vs := [_, _]) rfl rfl ag_46 sz_46 rfl (CellsAt.ownE hy eCau_len (by omega) (by rw [hgj]; rfl))) ?_
                refine GT_call rfl rfl rfl rfl rfl rfl rfl rfl rn_22 (fun w hw => C_Has (x := (leftS p d side h).getD (i - 1) default) (hp.sh hw) hwf (hd.sh hw) hdf hR (leftS_mem.1 hxj).1) (fun _ _ => GR_nil) (fun u hu => ?_)
                refine GT_st rfl rfl rfl rfl (V_move rfl rfl) ?_
                refine GT_st rfl rfl rfl rfl (V_extract rfl rfl rfl) ?_
                refine GT_st rfl rfl rfl rfl (V_extract rfl rfl rfl) ?_
                refine GT_st rfl rfl rfl rfl (V_assign rfl rfl) ?_
                refine GT_st rfl rfl rfl rfl (V_assign rfl rfl) ?_
                refine GT_nil ?_
                refine GE_seq ?_
                refine GE_slots (L' := [(0, _), (1, _), (2, _), (11, _), (15, _), (16, _), (17, _), (18, _)]) ⟨rfl, rfl, rfl, rfl, rfl, rfl, rfl, rfl, trivial⟩ ?_
                refine GE_plain (.st 0 (.st 1 (.st 2 (.st 3 (.st 4 (.st 5 (.st 6 (.ld 7 [] (.st 8 (.st 9 (.st 10 (.st 11 (.st 12 .nil))))))))))))) rfl ?_
                refine GT_st rfl rfl rfl rfl (V_move rfl rfl) ?_
                refine GT_st rfl rfl rfl rfl (V_move rfl rfl) ?_
                refine GT_st rfl rfl rfl rfl (V_move rfl rfl) ?_
                refine GT_st rfl rfl rfl rfl (V_move rfl rfl) ?_
                refine GT_st rfl rfl rfl rfl (V_move rfl rfl) ?_
                refine GT_st rfl rfl rfl rfl (V_index rfl rfl rfl Try.underlying39 sz_46 (k := i) rfl (by omega) (hy.isSome (k := i) (by omega))) ?_
                refine GT_st rfl rfl rfl rfl (V_loadN (vs := [_, _]) rfl rfl ag_46 sz_46 rfl (CellsAt.ownE hy eCau_len (by omega) (by rw [hgi]; rfl))) ?_
                refine GT_call rfl rfl rfl rfl rfl rfl rfl rfl rn_22 (fun w hw => C_Has (x := (leftS p d side h).getD i default) (hp.sh hw) hwf (hd.sh hw) hdf hR (leftS_mem.1 hxi).1) (fun _ _ => GR_nil) (fun v hv => ?_)
                refine GT_st rfl rfl rfl rfl (V_move rfl rfl) ?_
                refine GT_st rfl rfl rfl rfl (V_extract rfl rfl rfl) ?_
                refine GT_st rfl rfl rfl rfl (V_extract rfl rfl rfl) ?_
                refine GT_st rfl rfl rfl rfl (V_assign rfl rfl) ?_
                refine GT_st rfl rfl rfl rfl (V_assign rfl rfl) ?_
                refine GT_nil ?_
                refine GE_seq ?_
                refine GE_slots (L' := [(0, _), (1, _), (2, _), (11, _), (15, _), (16, _), (17, _), (18, _), (19, _), (20, _)]) ⟨rfl, rfl, rfl, rfl, rfl, rfl, rfl, rfl, rfl, rfl, trivial⟩ ?_
                refine GE_plain (.st 0 (.st 1 (.st 2 (.st 3 (.st 4 (.st 5 (.st 6 (.st 7 (.st 8 (.ld 9 [] (.st 10 (.st 11 .nil)))))))))))) rfl ?_
                refine GT_st rfl rfl rfl rfl (V_move rfl rfl) ?_
                refine GT_st rfl rfl rfl rfl (V_isF (V_neq rfl rfl rfl) (by decide)) ?_
                refine GT_st rfl rfl rfl rfl (V_move rfl rfl) ?_
                refine GT_st_g rfl rfl rfl rfl rfl rfl rfl (V_move rfl rfl) ?_
                refine GT_st_g rfl rfl rfl rfl rfl rfl rfl (V_isF (V_neq rfl rfl rfl) (by decide)) ?_
                refine GT_st rfl rfl rfl rfl (V_pick_f rfl rfl rfl) ?_
                refine GT_st rfl rfl rfl rfl (V_move rfl rfl) ?_
                refine GT_st_g rfl rfl rfl rfl rfl rfl rfl (V_move rfl rfl) ?_
                refine GT_st_g rfl rfl rfl rfl rfl rfl rfl (V_move rfl rfl) ?_
                refine GT_call0_g rfl rfl rfl rfl rfl rfl rfl rfl rfl rfl rfl rn_23 (fun w hw => C_Same (hu.rdH eI_len hw) (hv.rdH eI_len hw) (by omega)) (GR_nil) ?_
                rw [hss]
                first | refine GT_st_g rfl rfl rfl rfl rfl rfl rfl (V_not rfl rfl) ?_ | refine GT_st_g rfl rfl rfl rfl rfl rfl rfl (V_notB rfl rfl) ?_
                refine GT_st rfl rfl rfl rfl (V_pick_f rfl rfl rfl) ?_
                refine GT_nil ?_
                refine GE_cond_f rfl ?_
                refine GE_skip ?_
                refine GE_inBlock ?_
                refine GE_slots (L' := [(0, _), (1, _), (2, _), (11, _), (15, _), (16, _), (97, _), (98, _), (101, _), (102, _), (103, _), (104, _)]) ⟨rfl, rfl, rfl, rfl, rfl, rfl, rfl, rfl, rfl, rfl, rfl, rfl, trivial⟩ ?_
                refine GE_plain (.st 0 (.st 1 (.ld 2 [] .nil))) rfl ?_
                refine GT_st rfl rfl rfl rfl (V_move rfl rfl) ?_
                refine GT_st rfl rfl rfl rfl (V_add rfl rfl rfl (wrap_i64 (by omega))) ?_
                refine GT_ldv rfl rfl rfl rfl rfl (V_assign rfl rfl) (GR_nil) ?_
                refine GT_nil ?_
                exact GE_to (ih (i + 1) (by omega) (by omega)) ⟨rfl, rfl, rfl, rfl, rfl, rfl, trivial⟩ HS.last
              · skip
                refine GE_exit rfl ?_
                refine GE_seq ?_
                refine GE_slots (L' := [(15, _)]) ⟨rfl, trivial⟩ ?_
                refine GE_plain (.st 0 (.st 1 (.st 2 (.ld 3 [] (.st 4 (.st 5 .nil)))))) rfl ?_
                refine GT_st rfl rfl rfl rfl (V_move rfl rfl) ?_
                refine GT_st rfl rfl rfl rfl (V_isT (V_eql rfl rfl rfl) (by decide)) ?_
                refine GT_st rfl rfl rfl rfl (V_move rfl rfl) ?_
                refine GT_call0_g rfl rfl rfl rfl rfl rfl rfl rfl rfl rfl rfl rn_13 (fun w hw => C_law09_Works) (GR_nil) ?_
                refine GT_st rfl rfl rfl rfl (V_pick_t rfl rfl rfl) ?_
                refine GT_st rfl rfl rfl rfl (V_assign rfl rfl) ?_
                refine GT_nil ?_
                refine GE_ret Try.func7 rfl (fun w hw => ⟨?_, hw.nil⟩)
                rfl
            · exact Nat.le_refl _
          · have hsm := nextR_zero hc; rw [nextR_ok hsm]; dsimp only; obtain ⟨hn1, hn2, hn3, hn4⟩ := next_good hsm
            refine GE_skip ?_
            refine GE_seq ?_
            refine GE_plain (.st 0 (.st 1 (.st 2 (.st 3 (.st 4 (.ld 5 [] (.st 6 .nil))))))) rfl ?_
            refine GT_st rfl rfl rfl rfl (V_move rfl rfl) ?_
            refine GT_st rfl rfl rfl rfl (V_move rfl rfl) ?_
            refine GT_st rfl rfl rfl rfl (V_move rfl rfl) ?_
            refine GT_st rfl rfl rfl rfl (V_move rfl rfl) ?_
            refine GT_st rfl rfl rfl rfl (V_move rfl rfl) ?_
            refine GT_call0 rfl rfl rfl rfl rfl rfl rfl rfl rn_28 (fun w hw => C_worst (i := (nextTo (leftS p d side h) d.length).1) (hp.sh hw) hwf (hd.sh hw) hdf (hh.sh hw) he (by omega) hn1 rfl) (GR_nil) ?_
            refine GT_st rfl rfl rfl rfl (V_assign rfl rfl) ?_
            refine GT_nil ?_
            refine GE_seq ?_
            refine GE_slots (L' := [(0, _), (1, _), (2, _), (3, _), (4, _), (11, _), (14, _), (21, _)]) ⟨rfl, rfl, rfl, rfl, rfl, rfl, rfl, rfl, trivial⟩ ?_
            obtain ⟨q, hq, hql⟩ : ∃ q : Nat, x.tmod (d.length : Int) = q ∧ q < d.length := ⟨(x.tmod (d.length : Int)).toNat, by have := tmod_bd (b := (d.length : Int)) hx.1 (by omega); omega, by have := tmod_bd (b := (d.length : Int)) hx.1 (by omega); omega⟩
            refine GE_plain (.st 0 (.st 1 (.st 2 (.st 3 (.st 4 (.st 5 (.st 6 (.st 7 (.st 8 (.st 9 (.st 10 (.st 11 (.st 12 (.ld 13 [] (.st 14 .nil))))))))))))))) rfl ?_
            refine GT_st rfl rfl rfl rfl (V_move rfl rfl) ?_
            refine GT_st rfl rfl rfl rfl (V_move rfl rfl) ?_
            refine GT_st rfl rfl rfl rfl (V_move rfl rfl) ?_
            refine GT_st rfl rfl rfl rfl (V_move rfl rfl) ?_
            refine GT_st rfl rfl rfl rfl (V_move rfl rfl) ?_
            refine GT_st rfl rfl rfl rfl (V_move rfl rfl) ?_
            refine GT_st rfl rfl rfl rfl (V_convII rfl rfl (by rw [Try.underlying5]; rfl) Try.underlying3 (wrap_i64 (by omega))) ?_
            refine GT_st rfl rfl rfl rfl (V_move rfl rfl) ?_
            refine GT_st rfl rfl rfl rfl (V_len rfl Try.underlying37 rfl) ?_
            refine GT_st rfl rfl rfl rfl (V_rem rfl rfl rfl (by omega)) ?_
            refine GT_st rfl rfl rfl rfl (V_index rfl rfl rfl Try.underlying37 sz_50 (k := q) hq hql (hd.isSome hql)) ?_
            first | refine GT_st rfl rfl rfl rfl (V_field rfl rfl fo_50_0) ?_ | refine GT_st rfl rfl rfl rfl (V_fieldA rfl rfl fo_50_0) ?_
            refine GT_st rfl rfl rfl rfl (V_load rfl rfl ag_2 (hd.at0 noM hql rfl)) ?_
            refine GT_call0 rfl rfl rfl rfl rfl rfl rfl rfl rn_28 (fun w hw => C_worst (i := q) (hp.sh hw) hwf (hd.sh hw) hdf (hh.sh hw) he (by omega) hql rfl) (GR_nil) ?_
            refine GT_st rfl rfl rfl rfl (V_assign rfl rfl) ?_
            refine GT_nil ?_
            refine GE_seq ?_
            refine GE_slots (L' := [(11, _), (14, _), (21, _), (22, _)]) ⟨rfl, rfl, rfl, rfl, trivial⟩ ?_
            refine GE_plain (.st 0 (.st 1 (.st 2 (.st 3 (.st 4 (.st 5 (.st 6 (.st 7 (.st 8 (.st 9 (.st 10 (.st 11 (.st 12 (.st 13 (.st 14 (.ld 15 [] (.st 16 (.st 17 .nil)))))))))))))))))) rfl ?_
            refine GT_st rfl rfl rfl rfl (V_move rfl rfl) ?_
            refine GT_st rfl rfl rfl rfl (V_move rfl rfl) ?_
            refine GT_st rfl rfl rfl rfl (V_len rfl Try.underlying39 rfl) ?_
            refine GT_st rfl rfl rfl rfl (V_isT (V_lss rfl rfl rfl) (by omega)) ?_
            refine GT_st rfl rfl rfl rfl (V_move rfl rfl) ?_
            refine GT_st_g rfl rfl rfl rfl rfl rfl rfl (V_move rfl rfl) ?_
            refine GT_st_g rfl rfl rfl rfl rfl rfl rfl (V_move rfl rfl) ?_
            refine GT_st_g rfl rfl rfl rfl rfl rfl rfl (V_isT (V_eql rfl rfl rfl) (by rw [← hn3])) ?_
            refine GT_st rfl rfl rfl rfl (V_pick_t rfl rfl rfl) ?_
            refine GT_st rfl rfl rfl rfl (V_move rfl rfl) ?_
            refine GT_st_g rfl rfl rfl rfl rfl rfl rfl (V_move rfl rfl) ?_
            refine GT_st_g rfl rfl rfl rfl rfl rfl rfl (V_move rfl rfl) ?_
            refine GT_st_g rfl rfl rfl rfl rfl rfl rfl (V_isT (V_geq rfl rfl rfl) (by have := hn4 q hql; omega)) ?_
            refine GT_st rfl rfl rfl rfl (V_pick_t rfl rfl rfl) ?_
            refine GT_st rfl rfl rfl rfl (V_move rfl rfl) ?_
            refine GT_call0_g rfl rfl rfl rfl rfl rfl rfl rfl rfl rfl rfl rn_13 (fun w hw => C_law09_Works) (GR_nil) ?_
            refine GT_st rfl rfl rfl rfl (V_pick_t rfl rfl rfl) ?_
            refine GT_st rfl rfl rfl rfl (V_assign rfl rfl) ?_
            refine GT_nil ?_
            refine GE_ret Try.func7 rfl (fun w hw => ⟨?_, hw.nil⟩)
            rfl

/-- what was heard of the discs is -/
def hrs (d : List Dsc) (x : Sus) (is : List Nat) : List Hrg := is.map fun i => ⟨(d.getD i default).ser, x.has.getD i default⟩
theorem hrs_agree (hd : DsOk p d) {x : Sus} {is : List Nat} (hi : ∀ i ∈ is, i < d.length) : ∀ y ∈ hrs d x is, agree1 d x y = true := by
  intro y hy
  obtain ⟨i, hm, rfl⟩ := List.mem_map.1 hy
  unfold agree1
  rw [idxS_of hd (hi i hm)]
  simp
theorem hrs_known {x : Sus} {is : List Nat} (hi : ∀ i ∈ is, i < d.length) : ∀ y ∈ hrs d x is, known d y.ser = true := by
  intro y hy
  obtain ⟨i, hm, rfl⟩ := List.mem_map.1 hy
  exact known_iff.2 ⟨i, hi i hm, rfl⟩
/-- the next disc was not heard before -/
theorem next_fresh (hd : DsOk p d) {x : Sus} {is : List Nat} (hi : ∀ i ∈ is, i < d.length) (hsm : same (leftS p d side (hrs d x is)) = false) : (nextTo (leftS p d side (hrs d x is)) d.length).1 ∉ is := by
  obtain ⟨hn1, hn2, hn3, _⟩ := next_good hsm
  intro hm
  generalize (nextTo (leftS p d side (hrs d x is)) d.length).1 = q at *
  have key : ∀ y ∈ leftS p d side (hrs d x is), y.has.getD q default = x.has.getD q default := by
    intro y hy
    have := (leftS_mem.1 hy).2 ⟨(d.getD q default).ser, x.has.getD q default⟩ (List.mem_map.2 ⟨q, hm, rfl⟩)
    unfold agree1 at this
    rw [idxS_of hd hn1] at this
    simpa using this
  cases hb : x.has.getD q default with
  | true =>
    have := mny_all.2 (fun y hy => (key y hy).trans hb)
    omega
  | false =>
    have h0 : mny (leftS p d side (hrs d x is)) q = 0 := by
      rcases Nat.eq_zero_or_pos (mny (leftS p d side (hrs d x is)) q) with h0 | h0
      · exact h0
      · obtain ⟨y, hy, hyb⟩ := mny_pos.1 h0
        rw [key y hy, hb] at hyb; cases hyb
    omega
set_option maxRecDepth 10000 in
set_option maxHeartbeats 4000000 in
theorem L_ListenFound {x : Int} (hp : RdL w 7 ePlt A p) (hxp : p.length ≤ c ∧ c ≤ maxLen ∧ ∀ x ∈ p, Plt.wf x) (hd : RdL w 7 eDsc A2 d) (hxd : d.length ≤ c2 ∧ c2 ≤ maxLen ∧ ∀ x ∈ d, Dsc.wf x) (_ : (Lit.int .i64 side).wf = true) (hxw : (Lit.int .u16 x).wf = true) :
    Con0 Try.prog 8 [.slice A p.length c, .slice A2 d.length c2, I side, .int .u16 x] w (.bool true) := by
  have hwf := hxp.2.2
  have hdf := hxd.2.2
  have hx := u16_of hxw
  refine Ret_of (vs := [_, _, _, _]) hm none' Try.func8 rfl Try.ntmps8 rfl ?_
  dsimp only [slotsOf]
  refine GE_seq ?_
  refine GE_plain (.st 0 .nil) rfl ?_
  refine GT_st rfl rfl rfl rfl (V_assign rfl rfl) ?_
  refine GT_nil ?_
  refine GE_seq ?_
  refine GE_seq ?_
  refine GE_plain (.st 0 (.st 1 (.st 2 (.ld 3 [] (.st 4 .nil))))) rfl ?_
  refine GT_st rfl rfl rfl rfl (V_move rfl rfl) ?_
  refine GT_st rfl rfl rfl rfl (V_move rfl rfl) ?_
  refine GT_st rfl rfl rfl rfl (V_move rfl rfl) ?_
  refine GT_call0 rfl rfl rfl rfl rfl rfl rfl rfl rn_20 (fun w hw => C_small (hp.sh hw) hwf (hd.sh hw) hdf) (GR_nil) ?_
  first | refine GT_st rfl rfl rfl rfl (V_not rfl rfl) ?_ | refine GT_st rfl rfl rfl rfl (V_notB rfl rfl) ?_
  refine GT_nil ?_
  first | refine GE_condNot rfl (fun h1 => ?_) (fun h1 => ?_) | refine GE_cond rfl (fun h1 => ?_) (fun h1 => ?_) | refine GE_condNotB rfl (fun h1 => ?_) (fun h1 => ?_) | refine GE_condB rfl (fun h1 => ?_) (fun h1 => ?_)
  · skip
    refine GE_seq ?_
    refine GE_slots (L' := []) trivial ?_
    refine GE_plain (.ld 0 [] (.st 1 .nil)) rfl ?_
    refine GT_call0 rfl rfl rfl rfl rfl rfl rfl rfl rn_13 (fun w hw => C_law09_Works) (GR_nil) ?_
    refine GT_st rfl rfl rfl rfl (V_assign rfl rfl) ?_
    refine GT_nil ?_
    refine GE_ret Try.func8 rfl (fun w hw => ⟨?_, hw.nil⟩)
    rfl
  · obtain ⟨hpl, hdl, hR⟩ := of_small h1; have hle := causS_le (side := side) hR.dl hR.pl; have hml : ((causS p d side).map Sus.cau).length = (causS p d side).length := List.length_map ..
    refine GE_skip ?_
    refine GE_seq ?_
    refine GE_slots (L' := [(0, _), (1, _), (2, _), (3, _)]) ⟨rfl, rfl, rfl, rfl, trivial⟩ ?_
    refine GE_plain (.st 0 (.st 1 (.st 2 (.ld 3 [] (.st 4 .nil))))) rfl ?_
    refine GT_st rfl rfl rfl rfl (V_move rfl rfl) ?_
    refine GT_st rfl rfl rfl rfl (V_move rfl rfl) ?_
    refine GT_st rfl rfl rfl rfl (V_move rfl rfl) ?_
    refine GT_call rfl rfl rfl rfl rfl rfl rfl rfl rn_29 (fun w hw => C_All (hp.sh hw) (hd.sh hw) hR) (fun _ _ => GR_nil) (fun y hy => ?_)
    refine GT_st rfl rfl rfl rfl (V_assign rfl rfl) ?_
    refine GT_nil ?_
    refine GE_seq ?_
    refine GE_seq ?_
    refine GE_slots (L' := [(0, _), (1, _), (2, _), (3, _), (9, _)]) ⟨rfl, rfl, rfl, rfl, rfl, trivial⟩ ?_
    refine GE_plain (.st 0 (.st 1 (.st 2 .nil))) rfl ?_
    refine GT_st rfl rfl rfl rfl (V_move rfl rfl) ?_
    refine GT_st rfl rfl rfl rfl (V_len rfl Try.underlying39 rfl) ?_
    refine GT_st rfl rfl rfl rfl (V_eql rfl rfl rfl) ?_
    refine GT_nil ?_
    first | refine GE_condNot rfl (fun h2 => ?_) (fun h2 => ?_) | refine GE_cond rfl (fun h2 => ?_) (fun h2 => ?_) | refine GE_condNotB rfl (fun h2 => ?_) (fun h2 => ?_) | refine GE_condB rfl (fun h2 => ?_) (fun h2 => ?_)
    · skip
      refine GE_seq ?_
      refine GE_slots (L' := []) trivial ?_
      refine GE_plain (.ld 0 [] (.st 1 .nil)) rfl ?_
      refine GT_call0 rfl rfl rfl rfl rfl rfl rfl rfl rn_13 (fun w hw => C_law09_Works) (GR_nil) ?_
      refine GT_st rfl rfl rfl rfl (V_assign rfl rfl) ?_
      refine GT_nil ?_
      refine GE_ret Try.func8 rfl (fun w hw => ⟨?_, hw.nil⟩)
      rfl
    · have hl0 : 0 < (causS p d side).length := (by omega)
      obtain ⟨q, hq, hql⟩ : ∃ q : Nat, x.tmod (((causS p d side).map Sus.cau).length : Int) = q ∧ q < (causS p d side).length := ⟨(x.tmod (((causS p d side).map Sus.cau).length : Int)).toNat, by have := tmod_bd (b := (((causS p d side).map Sus.cau).length : Int)) hx.1 (by omega); omega, by have := tmod_bd (b := (((causS p d side).map Sus.cau).length : Int)) hx.1 (by omega); omega⟩
      have hg := cau_get hql
      have hx0 := mem_getD hql
      generalize (causS p d side).getD q default = x0 at hg hx0
      have hl1 := hasS_le (d := d) (x := x0)
      refine GE_skip ?_
      refine GE_seq ?_
      refine GE_plain (.st 0 (.st 1 (.st 2 (.st 3 (.st 4 (.st 5 (.st 6 (.st 7 (.st 8 (.st 9 (.st 10 (.ld 11 [] (.st 12 (.st 13 (.st 14 (.st 15 (.st 16 .nil))))))))))))))))) rfl ?_
      refine GT_st rfl rfl rfl rfl (V_move rfl rfl) ?_
      refine GT_st rfl rfl rfl rfl (V_move rfl rfl) ?_
      refine GT_st rfl rfl rfl rfl (V_move rfl rfl) ?_
      refine GT_st rfl rfl rfl rfl (V_move rfl rfl) ?_
      refine GT_st rfl rfl rfl rfl (V_move rfl rfl) ?_
      refine GT_st rfl rfl rfl rfl (V_convII rfl rfl (by rw [Try.underlying22]; rfl) Try.underlying3 (wrap_i64 (by omega))) ?_
      refine GT_st rfl rfl rfl rfl (V_move rfl rfl) ?_
      refine GT_st rfl rfl rfl rfl (V_len rfl Try.underlying39 rfl) ?_
      refine GT_st rfl rfl rfl rfl (V_rem rfl rfl rfl (by omega)) ?_
      refine GT_st rfl rfl rfl rfl (V_index rfl rfl rfl Try.underlying39 sz_46 (k := q) hq (by omega) (hy.isSome (k := q) (by omega))) ?_
      refine GT_st rfl rfl rfl rfl (V_loadN (vs := [_, _]) rfl rfl ag_46 sz_46 rfl (CellsAt.ownE hy eCau_len (by omega) (by rw [hg]; rfl))) ?_
      refine GT_call rfl rfl rfl rfl rfl rfl rfl rfl rn_22 (fun w hw => C_Has (x := x0) (hp.sh hw) hwf (hd.sh hw) hdf hR hx0) (fun _ _ => GR_nil) (fun u hu => ?_)
      refine GT_st rfl rfl rfl rfl (V_move rfl rfl) ?_
      refine GT_st rfl rfl rfl rfl (V_extract rfl rfl rfl) ?_
      refine GT_st rfl rfl rfl rfl (V_extract rfl rfl rfl) ?_
      refine GT_st rfl rfl rfl rfl (V_assign rfl rfl) ?_
      refine GT_st rfl rfl rfl rfl (V_assign rfl rfl) ?_
      refine GT_nil ?_
      refine GE_seq ?_
      refine GE_seq ?_
      refine GE_slots (L' := [(0, _), (1, _), (2, _), (10, _), (11, _)]) ⟨rfl, rfl, rfl, rfl, rfl, trivial⟩ ?_
      refine GE_plain (.st 0 (.st 1 .nil)) rfl ?_
      refine GT_st rfl rfl rfl rfl (V_move rfl rfl) ?_
      refine GT_st rfl rfl rfl rfl (V_neq rfl rfl rfl) ?_
      refine GT_nil ?_
      first | refine GE_condNot rfl (fun h3 => ?_) (fun h3 => ?_) | refine GE_cond rfl (fun h3 => ?_) (fun h3 => ?_) | refine GE_condNotB rfl (fun h3 => ?_) (fun h3 => ?_) | refine GE_condB rfl (fun h3 => ?_) (fun h3 => ?_)
      · exact absurd rfl h3
      · skip
        refine GE_skip ?_
        refine GE_seq ?_
        refine GE_plain (.st 0 .nil) rfl ?_
        refine GT_st rfl rfl rfl rfl (V_assign rfl rfl) ?_
        refine GT_nil ?_
        refine GE_seq ?_
        refine GE_seq ?_
        refine GE_plain (.st 0 .nil) rfl ?_
        refine GT_st rfl rfl rfl rfl (V_assign rfl rfl) ?_
        refine GT_nil ?_
        refine GE_block ?_
        refine GE_to (GE_loop (ι := Nat × List Nat × Option Addr × Nat × Items) (fun x => d.length + 1 - x.1) (fun x => [(0, .slice A p.length c), (1, .slice A2 d.length c2), (2, I side), (10, .slice u.1 (hasS d x0).length u.2.1), (12, .slice x.2.2.1 (hrs d x0 x.2.1).length x.2.2.2.1), (13, I x.1)]) (fun x => x.2.2.2.2 ++ u.2.2) (fun x => x.1 ≤ d.length ∧ x.2.1.length = x.1 ∧ x.2.1.Nodup ∧ (∀ i ∈ x.2.1, i < d.length) ∧ Own 2 61 eHrg (hrs d x0 x.2.1) (.slice x.2.2.1 (hrs d x0 x.2.1).length x.2.2.2.1) x.2.2.2.2) ?_ (0, [], none, 0, []) ?_) ⟨rfl, rfl, rfl, rfl, rfl, rfl, trivial⟩ (HS.chunk (I := []) HS.last)
        · rintro ⟨n, is, A', c', I'⟩ ⟨hn, hisl, hisn, hisd, hO⟩ ih; dsimp only at hn hisl hisn hisd hO ih ⊢
          have hhl : (hrs d x0 is).length = n := (by unfold hrs; rw [List.length_map, hisl])
          have he : hearE p d side (hrs d x0 is) = 0 := hearE_zero.2 ⟨hR, by omega, hrs_known hisd⟩
          have hx0l : x0 ∈ leftS p d side (hrs d x0 is) := leftS_mem.2 ⟨hx0, hrs_agree hR.dsok hisd⟩
          refine GE_seq ?_
          refine GE_seq ?_
          refine GE_plain (.st 0 (.st 1 (.st 2 (.st 3 .nil)))) rfl ?_
          refine GT_st rfl rfl rfl rfl (V_move rfl rfl) ?_
          refine GT_st rfl rfl rfl rfl (V_move rfl rfl) ?_
          refine GT_st rfl rfl rfl rfl (V_len rfl Try.underlying37 rfl) ?_
          refine GT_st rfl rfl rfl rfl (V_leq rfl rfl rfl) ?_
          refine GT_nil ?_
          first | refine GE_condNot rfl (fun h4 => ?_) (fun h4 => ?_) | refine GE_cond rfl (fun h4 => ?_) (fun h4 => ?_) | refine GE_condNotB rfl (fun h4 => ?_) (fun h4 => ?_) | refine GE_condB rfl (fun h4 => ?_) (fun h4 => ?_)
          · skip
            refine GE_skip ?_
            refine GE_seq ?_
            refine GE_block ?_
            refine GE_seq ?_
            refine GE_slots (L' := [(0, _), (1, _), (2, _), (10, _), (12, _), (13, _)]) ⟨rfl, rfl, rfl, rfl, rfl, rfl, trivial⟩ ?_
            refine GE_plain (.st 0 (.st 1 (.st 2 (.st 3 (.ld 4 [] (.st 5 (.st 6 (.st 7 (.st 8 (.st 9 (.st 10 (.st 11 .nil)))))))))))) rfl ?_
            refine GT_st rfl rfl rfl rfl (V_move rfl rfl) ?_
            refine GT_st rfl rfl rfl rfl (V_move rfl rfl) ?_
            refine GT_st rfl rfl rfl rfl (V_move rfl rfl) ?_
            refine GT_st rfl rfl rfl rfl (V_move rfl rfl) ?_
            refine GT_call0 rfl rfl rfl rfl rfl rfl rfl rfl rn_27 (fun w hw => C_Next (hp.sh hw) hwf (hd.sh hw) hdf (hO.rdH eHrg_len hw)) (GR_nil) ?_
            rw [show nextE p d side (hrs d x0 is) = nextR d (leftS p d side (hrs d x0 is)) from if_pos he]
            refine GT_st rfl rfl rfl rfl (V_move rfl rfl) ?_
            refine GT_st rfl rfl rfl rfl (V_extract rfl rfl rfl) ?_
            refine GT_st rfl rfl rfl rfl (V_extract rfl rfl rfl) ?_
            refine GT_st rfl rfl rfl rfl (V_extract rfl rfl rfl) ?_
            refine GT_st rfl rfl rfl rfl (V_assign rfl rfl) ?_
            refine GT_st rfl rfl rfl rfl (V_assign rfl rfl) ?_
            refine GT_st rfl rfl rfl rfl (V_assign rfl rfl) ?_
            refine GT_nil ?_
            refine GE_seq ?_
            refine GE_seq ?_
            refine GE_slots (L' := [(0, _), (1, _), (2, _), (10, _), (12, _), (13, _), (14, _), (16, _)]) ⟨rfl, rfl, rfl, rfl, rfl, rfl, rfl, rfl, trivial⟩ ?_
            refine GE_plain (.st 0 (.st 1 (.st 2 (.st 3 (.st 4 (.st 5 (.st 6 (.st 7 .nil)))))))) rfl ?_
            refine GT_st rfl rfl rfl rfl (V_move rfl rfl) ?_
            refine GT_st rfl rfl rfl rfl (V_eql rfl rfl rfl) ?_
            refine GT_st rfl rfl rfl rfl (V_move rfl rfl) ?_
            first | refine GT_splitNot (d := 69) rfl (fun hc => ?_) (fun hc => ?_) | refine GT_split (d := 69) rfl (fun hc => ?_) (fun hc => ?_) | refine GT_splitNotB (d := 69) rfl (fun hc => ?_) (fun hc => ?_) | refine GT_splitB (d := 69) rfl (fun hc => ?_) (fun hc => ?_)
            · have hsm := nextR_zero hc; obtain ⟨hn1, hn2, hn3, hn4⟩ := next_good hsm; have hfr := next_fresh hR.dsok hisd hsm
              refine GT_st_g rfl rfl rfl rfl rfl rfl rfl (V_move rfl rfl) ?_
              refine GT_st_g rfl rfl rfl rfl rfl rfl rfl (V_move rfl rfl) ?_
              refine GT_st_g rfl rfl rfl rfl rfl rfl rfl (V_len rfl Try.underlying37 rfl) ?_
              refine GT_st_g rfl rfl rfl rfl rfl rfl rfl (V_lss rfl rfl rfl) ?_
              refine GT_st rfl rfl rfl rfl (V_pick_t rfl rfl rfl) ?_
              refine GT_nil ?_
              first | refine GE_condNot rfl (fun h5 => ?_) (fun h5 => ?_) | refine GE_cond rfl (fun h5 => ?_) (fun h5 => ?_) | refine GE_condNotB rfl (fun h5 => ?_) (fun h5 => ?_) | refine GE_condB rfl (fun h5 => ?_) (fun h5 => ?_)
              · rw [nextR_ok hsm]
                refine GE_seq ?_
                refine GE_slots (L' := [(0, _), (1, _), (2, _), (10, _), (12, _), (13, _), (14, _), (70, _), (71, _), (72, _), (73, _)]) ⟨rfl, rfl, rfl, rfl, rfl, rfl, rfl, rfl, rfl, rfl, rfl, trivial⟩ ?_
                refine GE_plain (.st 0 (.st 1 (.st 2 (.st 3 (.ld 4 [] (.st 5 (.ld 6 [] (.ld 7 [] (.ld 8 [] .nil))))))))) rfl ?_
                refine GT_st rfl rfl rfl rfl (V_move rfl rfl) ?_
                refine GT_st rfl rfl rfl rfl (V_move rfl rfl) ?_
                refine GT_st rfl rfl rfl rfl (V_move rfl rfl) ?_
                refine GT_st rfl rfl rfl rfl (V_move rfl rfl) ?_
                refine GT_call0 rfl rfl rfl rfl rfl rfl rfl rfl rn_24 (fun w hw => C_among (hu.rdH eI_len hw) (by omega)) (GR_nil) ?_
                dsimp only; rw [contains_has hR.dsok hn1]
                refine GT_st rfl rfl rfl rfl (V_build (vs := [_, _]) rfl rfl zc_61 pl_61 sa_61 rfl) ?_
                refine GT_buildSlice (z := [_, _]) rfl rfl rfl rfl rfl Try.underlying54 zc_61 sz_61 (by decide) rfl rfl (fun _ => GR_nil) (fun b81 => ?_)
                refine GT_append (enc := eHrg) (m := [⟨(d.getD (nextTo (leftS p d side (hrs d x0 is)) d.length).1 default).ser, x0.has.getD (nextTo (leftS p d side (hrs d x0 is)) d.length).1 default⟩]) rfl rfl rfl rfl rfl rfl rfl hO (fun w m => RdL.own' m eHrg_len) Try.underlying54 zc_61 sz_61 ⟨rfl, by decide⟩ by_61 ⟨by simp only [List.length_singleton]; omega, by simp only [List.length_singleton]; omega⟩ eHrg_len eHrg_one (fun _ _ _ _ => GR_nil) (fun A2' c2' I2' hO2 => ?_)
                rw [show hrs d x0 is ++ [⟨(d.getD (nextTo (leftS p d side (hrs d x0 is)) d.length).1 default).ser, x0.has.getD (nextTo (leftS p d side (hrs d x0 is)) d.length).1 default⟩] = hrs d x0 (is ++ [(nextTo (leftS p d side (hrs d x0 is)) d.length).1]) by unfold hrs; rw [List.map_append]; rfl] at hO2 ⊢
                refine GT_ldv rfl rfl rfl rfl rfl (V_assign rfl rfl) (GR_nil) ?_
                refine GT_nil ?_
                refine GE_exit rfl ?_
                refine GE_slots (L' := [(0, _), (1, _), (2, _), (10, _), (12, _), (13, _), (70, _), (71, _), (72, _), (73, _)]) ⟨rfl, rfl, rfl, rfl, rfl, rfl, rfl, rfl, rfl, rfl, trivial⟩ ?_
                refine GE_plain (.st 0 (.st 1 (.ld 2 [] .nil))) rfl ?_
                refine GT_st rfl rfl rfl rfl (V_move rfl rfl) ?_
                refine GT_st rfl rfl rfl rfl (V_add rfl rfl rfl (wrap_i64 (by omega))) ?_
                refine GT_ldv rfl rfl rfl rfl rfl (V_assign rfl rfl) (GR_nil) ?_
                refine GT_nil ?_
                exact GE_to (ih (n + 1, is ++ [(nextTo (leftS p d side (hrs d x0 is)) d.length).1], A2', c2', I2') ⟨by dsimp only; omega, by rw [List.length_append, List.length_singleton, hisl], List.nodup_append.2 ⟨hisn, List.pairwise_singleton .., fun a ha b hb => by rw [List.mem_singleton] at hb; rintro rfl; exact next_fresh hR.dsok hisd hsm (hb ▸ ha)⟩, fun i hi => by rcases List.mem_append.1 hi with hi | hi; exact hisd i hi; rw [List.mem_singleton.1 hi]; exact hn1, hO2⟩ (by dsimp only; omega)) ⟨rfl, rfl, rfl, rfl, rfl, rfl, trivial⟩ (HS.chunk HS.last)
              · exact absurd (nodup_full hisn hisd (by omega) hn1) hfr
            · have hsm := nextR_code hc; have h15 : (nextR d (leftS p d side (hrs d x0 is))).2.2 = 15 := (by rw [nextR_same hsm]); have hce := cert_same (d := d) hx0l (fun y hy => same_eq hsm hy hx0l); have hcl : certL p d side (hrs d x0 is) = hasS d x0 := (by unfold certL; rw [if_pos he]; exact hce.1); have hpo : possL p d side (hrs d x0 is) = hasS d x0 := (by unfold possL; rw [if_pos he]; exact hce.2)
              refine GT_skip rfl rfl rfl rfl rfl (by decide) rfl rfl ?_
              refine GT_skip rfl rfl rfl rfl rfl (by decide) rfl rfl ?_
              refine GT_skip rfl rfl rfl rfl rfl (by decide) rfl rfl ?_
              refine GT_skip rfl rfl rfl rfl rfl (by decide) rfl rfl ?_
              refine GT_st rfl rfl rfl rfl (V_pick_f rfl rfl rfl) ?_
              refine GT_nil ?_
              refine GE_cond_f rfl ?_
              refine GE_skip ?_
              refine GE_seq ?_
              refine GE_slots (L' := [(0, _), (1, _), (2, _), (10, _), (12, _), (16, _)]) ⟨rfl, rfl, rfl, rfl, rfl, rfl, trivial⟩ ?_
              refine GE_plain (.st 0 (.st 1 (.st 2 (.st 3 (.ld 4 [] (.st 5 (.st 6 (.st 7 (.st 8 (.st 9 .nil)))))))))) rfl ?_
              refine GT_st rfl rfl rfl rfl (V_move rfl rfl) ?_
              refine GT_st rfl rfl rfl rfl (V_move rfl rfl) ?_
              refine GT_st rfl rfl rfl rfl (V_move rfl rfl) ?_
              refine GT_st rfl rfl rfl rfl (V_move rfl rfl) ?_
              refine GT_call rfl rfl rfl rfl rfl rfl rfl rfl rn_30 (fun w hw => C_Certain (hp.sh hw) hwf (hd.sh hw) hdf (hO.rdH eHrg_len hw)) (fun _ _ => GR_nil) (fun v hv => ?_)
              rw [hcl] at hv ⊢; rw [he]
              refine GT_st rfl rfl rfl rfl (V_move rfl rfl) ?_
              refine GT_st rfl rfl rfl rfl (V_extract rfl rfl rfl) ?_
              refine GT_st rfl rfl rfl rfl (V_extract rfl rfl rfl) ?_
              refine GT_st rfl rfl rfl rfl (V_assign rfl rfl) ?_
              refine GT_st rfl rfl rfl rfl (V_assign rfl rfl) ?_
              refine GT_nil ?_
              refine GE_seq ?_
              refine GE_slots (L' := [(0, _), (1, _), (2, _), (10, _), (12, _), (16, _), (17, _), (18, _)]) ⟨rfl, rfl, rfl, rfl, rfl, rfl, rfl, rfl, trivial⟩ ?_
              refine GE_plain (.st 0 (.st 1 (.st 2 (.st 3 (.ld 4 [] (.st 5 (.st 6 (.st 7 (.st 8 (.st 9 .nil)))))))))) rfl ?_
              refine GT_st rfl rfl rfl rfl (V_move rfl rfl) ?_
              refine GT_st rfl rfl rfl rfl (V_move rfl rfl) ?_
              refine GT_st rfl rfl rfl rfl (V_move rfl rfl) ?_
              refine GT_st rfl rfl rfl rfl (V_move rfl rfl) ?_
              refine GT_call rfl rfl rfl rfl rfl rfl rfl rfl rn_31 (fun w hw => C_Possible (hp.sh hw) hwf (hd.sh hw) hdf (hO.rdH eHrg_len hw)) (fun _ _ => GR_nil) (fun z hz => ?_)
              rw [hpo] at hz ⊢; rw [he]
              refine GT_st rfl rfl rfl rfl (V_move rfl rfl) ?_
              refine GT_st rfl rfl rfl rfl (V_extract rfl rfl rfl) ?_
              refine GT_st rfl rfl rfl rfl (V_extract rfl rfl rfl) ?_
              refine GT_st rfl rfl rfl rfl (V_assign rfl rfl) ?_
              refine GT_st rfl rfl rfl rfl (V_assign rfl rfl) ?_
              refine GT_nil ?_
              refine GE_seq ?_
              refine GE_slots (L' := [(10, _), (16, _), (17, _), (18, _), (19, _), (20, _)]) ⟨rfl, rfl, rfl, rfl, rfl, rfl, trivial⟩ ?_
              refine GE_plain (.st 0 (.st 1 (.st 2 (.st 3 (.st 4 (.st 5 (.st 6 (.st 7 (.st 8 (.st 9 (.st 10 (.st 11 (.st 12 (.ld 13 [] (.st 14 (.st 15 (.st 16 (.st 17 (.ld 18 [] (.st 19 (.st 20 (.ld 21 [] (.st 22 (.st 23 .nil)))))))))))))))))))))))) rfl ?_
              refine GT_st rfl rfl rfl rfl (V_move rfl rfl) ?_
              refine GT_st rfl rfl rfl rfl (V_isT (V_eql rfl rfl rfl) h15) ?_
              refine GT_st rfl rfl rfl rfl (V_move rfl rfl) ?_
              refine GT_st_g rfl rfl rfl rfl rfl rfl rfl (V_move rfl rfl) ?_
              refine GT_st_g rfl rfl rfl rfl rfl rfl rfl (V_isT (V_eql rfl rfl rfl) (by decide)) ?_
              refine GT_st rfl rfl rfl rfl (V_pick_t rfl rfl rfl) ?_
              refine GT_st rfl rfl rfl rfl (V_move rfl rfl) ?_
              refine GT_st_g rfl rfl rfl rfl rfl rfl rfl (V_move rfl rfl) ?_
              refine GT_st_g rfl rfl rfl rfl rfl rfl rfl (V_isT (V_eql rfl rfl rfl) (by decide)) ?_
              refine GT_st rfl rfl rfl rfl (V_pick_t rfl rfl rfl) ?_
              refine GT_st rfl rfl rfl rfl (V_move rfl rfl) ?_
              refine GT_st_g rfl rfl rfl rfl rfl rfl rfl (V_move rfl rfl) ?_
              refine GT_st_g rfl rfl rfl rfl rfl rfl rfl (V_move rfl rfl) ?_
              refine GT_call0_g rfl rfl rfl rfl rfl rfl rfl rfl rfl rfl rfl rn_23 (fun w hw => C_Same (hv.rdH eI_len hw) (hu.rdH eI_len hw) (by omega)) (GR_nil) ?_
              rw [beq_self_eq_true]
              refine GT_st rfl rfl rfl rfl (V_pick_t rfl rfl rfl) ?_
              refine GT_st rfl rfl rfl rfl (V_move rfl rfl) ?_
              refine GT_st_g rfl rfl rfl rfl rfl rfl rfl (V_move rfl rfl) ?_
              refine GT_st_g rfl rfl rfl rfl rfl rfl rfl (V_move rfl rfl) ?_
              refine GT_call0_g rfl rfl rfl rfl rfl rfl rfl rfl rfl rfl rfl rn_23 (fun w hw => C_Same (hz.rdH eI_len hw) (hu.rdH eI_len hw) (by omega)) (GR_nil) ?_
              rw [beq_self_eq_true]
              refine GT_st rfl rfl rfl rfl (V_pick_t rfl rfl rfl) ?_
              refine GT_st rfl rfl rfl rfl (V_move rfl rfl) ?_
              refine GT_call0_g rfl rfl rfl rfl rfl rfl rfl rfl rfl rfl rfl rn_13 (fun w hw => C_law09_Works) (GR_nil) ?_
              refine GT_st rfl rfl rfl rfl (V_pick_t rfl rfl rfl) ?_
              refine GT_st rfl rfl rfl rfl (V_assign rfl rfl) ?_
              refine GT_nil ?_
              refine GE_ret Try.func8 rfl (fun w hw => ⟨?_, hw.nil⟩)
              rfl
          · exact absurd hn (by omega)
        · exact ⟨Nat.zero_le _, rfl, List.nodup_nil, (fun i h => by cases h), Own.nil⟩
end
end Go.Proofs.Ytfaggcmcfhljpaa
