/- The discs that have a cause, the certain and the possible ones: walked. -/
import Derived.Test.YtfaggcmcfhljpaaLid
namespace Go.Proofs.Ytfaggcmcfhljpaa
open Go.Sx Go.Proofs

section
variable {p : List Plt} {d : List Dsc} {h : List Hrg} {A A2 A3 A5 : Option Addr} {c c2 c3 c5 : Nat} {side : Int} {w : World}
theorem C_set_of {has : List Bool} (hh : RdL w 1 eB A has) (hs : RdL w 1 eI A3 (serS d)) (hn : has.length = d.length) (hdl : d.length ≤ 200) :
    Con Try.prog 49 [.slice A d.length c, .slice A3 d.length c3] w (fun y : Option Addr × Nat × Items => Own 1 2 eI (pick d fun i => has.getD i default) (.slice y.1 (pick d fun i => has.getD i default).length y.2.1) y.2.2)
      (fun y => .slice y.1 (pick d fun i => has.getD i default).length y.2.1) (fun y => y.2.2) := by
  have hsl := serS_len d
  refine Ret_of (vs := [_, _]) hm none' Try.func49 rfl Try.ntmps49 rfl ?_
  dsimp only [slotsOf]
  refine GE_seq ?_
  refine GE_plain (.st 0 .nil) rfl ?_
  refine GT_st rfl rfl rfl rfl (V_assign rfl rfl) ?_
  refine GT_nil ?_
  refine GE_seq ?_
  refine GE_seq ?_
  refine GE_plain (.st 0 (.st 1 (.st 2 .nil))) rfl ?_
  refine GT_st rfl rfl rfl rfl (V_move rfl rfl) ?_
  refine GT_st rfl rfl rfl rfl (V_len rfl Try.underlying91 rfl) ?_
  refine GT_st rfl rfl rfl rfl (V_move rfl rfl) ?_
  refine GT_nil ?_
  refine GE_block ?_
  refine GE_to (GE_loop (ι := Nat × Option Addr × Nat × Items) (fun x => d.length - x.1) (fun x => [(1, .slice A3 d.length c3), (4, .slice x.2.1 (pickTo d (fun i => has.getD i default) x.1).length x.2.2.1), (7, .slice A d.length c), (8, I d.length), (9, I x.1)]) (fun x => x.2.2.2) (fun x => x.1 ≤ d.length ∧ Own 1 2 eI (pickTo d (fun i => has.getD i default) x.1) (.slice x.2.1 (pickTo d (fun i => has.getD i default) x.1).length x.2.2.1) x.2.2.2) ?_ (0, none, 0, []) ?_) ⟨rfl, rfl, rfl, rfl, rfl, trivial⟩ HS.nil
  · rintro ⟨k, A', c', I'⟩ ⟨hk, hO⟩ ih; dsimp only at hk hO ih ⊢; have hpl := pickTo_le (d := d) (f := fun i => has.getD i default) (k := k)
    refine GE_seq ?_
    refine GE_plain (.st 0 .nil) rfl ?_
    refine GT_st rfl rfl rfl rfl (V_lss rfl rfl rfl) ?_
    refine GT_nil ?_
    refine GE_seq ?_
    first | refine GE_condNot rfl (fun h1 => ?_) (fun h1 => ?_) | refine GE_cond rfl (fun h1 => ?_) (fun h1 => ?_) | refine GE_condNotB rfl (fun h1 => ?_) (fun h1 => ?_) | refine GE_condB rfl (fun h1 => ?_) (fun h1 => ?_)
    · have hkl : k < d.length := (by omega)
      refine GE_skip ?_
      refine GE_seq ?_
      refine GE_block ?_
      refine GE_seq ?_
      refine GE_plain (.st 0 (.st 1 (.st 2 (.st 3 (.st 4 .nil))))) rfl ?_
      refine GT_st rfl rfl rfl rfl (V_move rfl rfl) ?_
      refine GT_st rfl rfl rfl rfl (V_index rfl rfl rfl Try.underlying91 sz_4 (k := k) rfl hkl (hh.isSome (k := k) (by omega))) ?_
      refine GT_st rfl rfl rfl rfl (V_load rfl rfl ag_4 (hh.at0 noM (by omega) rfl)) ?_
      refine GT_st rfl rfl rfl rfl (V_assign rfl rfl) ?_
      refine GT_st rfl rfl rfl rfl (V_assign rfl rfl) ?_
      refine GT_nil ?_
      refine GE_seq ?_
      refine GE_slots (L' := [(1, _), (4, _), (5, _), (6, _), (7, _), (8, _), (9, _)]) ⟨rfl, rfl, rfl, rfl, rfl, rfl, rfl, trivial⟩ ?_
      refine GE_plain (.st 0 .nil) rfl ?_
      refine GT_st rfl rfl rfl rfl (V_move rfl rfl) ?_
      refine GT_nil ?_
      first | refine GE_condNot rfl (fun h2 => ?_) (fun h2 => ?_) | refine GE_cond rfl (fun h2 => ?_) (fun h2 => ?_) | refine GE_condNotB rfl (fun h2 => ?_) (fun h2 => ?_) | refine GE_condB rfl (fun h2 => ?_) (fun h2 => ?_)
      · have e1 : pickTo d (fun i => has.getD i default) k ++ [(d.getD k default).ser] = pickTo d (fun i => has.getD i default) (k + 1) := (by rw [pickTo_succ, h2, if_pos rfl])
        refine GE_plain (.st 0 (.st 1 (.st 2 (.st 3 (.st 4 (.ld 5 [] (.ld 6 [] (.ld 7 [] .nil)))))))) rfl ?_
        refine GT_st rfl rfl rfl rfl (V_move rfl rfl) ?_
        refine GT_st rfl rfl rfl rfl (V_move rfl rfl) ?_
        refine GT_st rfl rfl rfl rfl (V_move rfl rfl) ?_
        refine GT_st rfl rfl rfl rfl (V_index rfl rfl rfl Try.underlying42 sz_2 (k := k) rfl hkl (hs.isSome (k := k) (by omega))) ?_
        refine GT_st rfl rfl rfl rfl (V_load rfl rfl ag_2 (hs.at0 noM (by omega) (by rw [serS_get hkl]; rfl))) ?_
        refine GT_buildSlice (z := [_]) rfl rfl rfl rfl rfl Try.underlying42 zc_2 sz_2 (by decide) rfl rfl (fun _ => GR_nil) (fun b20 => ?_)
        refine GT_append (enc := eI) (m := [(d.getD k default).ser]) rfl rfl rfl rfl rfl rfl rfl hO (fun w m => RdL.own' m eI_len) Try.underlying42 zc_2 sz_2 ⟨rfl, by decide⟩ by_2 ⟨by simp only [List.length_singleton]; omega, by simp only [List.length_singleton]; omega⟩ eI_len eI_one (fun _ _ _ _ => GR_nil) (fun A2' c2' I2' hO2 => ?_)
        refine GT_ldv rfl rfl rfl rfl rfl (V_assign rfl rfl) (GR_nil) ?_
        refine GT_nil ?_
        refine GE_inBlock ?_
        refine GE_slots (L' := [(1, _), (4, _), (7, _), (8, _), (9, _)]) ⟨rfl, rfl, rfl, rfl, rfl, trivial⟩ ?_
        refine GE_plain (.st 0 (.ld 1 [] .nil)) rfl ?_
        refine GT_st rfl rfl rfl rfl (V_add rfl rfl rfl (wrap_i64 (by omega))) ?_
        refine GT_ldv rfl rfl rfl rfl rfl (V_move rfl rfl) (GR_nil) ?_
        refine GT_nil ?_
        first
          | (rw [e1] at hO2 ⊢; exact GE_to (ih (k + 1, A2', c2', I2') ⟨by dsimp only; omega, hO2⟩ (by dsimp only; omega)) ⟨rfl, rfl, rfl, rfl, rfl, trivial⟩ HS.last)
          | (have hO2 := hO; rw [← e1] at hO2 ⊢; exact GE_to (ih (k + 1, A', c', I') ⟨by dsimp only; omega, hO2⟩ (by dsimp only; omega)) ⟨rfl, rfl, rfl, rfl, rfl, trivial⟩ HS.last)
      · have e1 : pickTo d (fun i => has.getD i default) (k + 1) = pickTo d (fun i => has.getD i default) k := (by rw [pickTo_succ, h2, if_neg (by decide), List.append_nil])
        refine GE_skip ?_
        refine GE_inBlock ?_
        refine GE_plain (.st 0 (.ld 1 [] .nil)) rfl ?_
        refine GT_st rfl rfl rfl rfl (V_add rfl rfl rfl (wrap_i64 (by omega))) ?_
        refine GT_ldv rfl rfl rfl rfl rfl (V_move rfl rfl) (GR_nil) ?_
        refine GT_nil ?_
        first
          | (rw [e1] at hO2 ⊢; exact GE_to (ih (k + 1, A2', c2', I2') ⟨by dsimp only; omega, hO2⟩ (by dsimp only; omega)) ⟨rfl, rfl, rfl, rfl, rfl, trivial⟩ HS.last)
          | (have hO2 := hO; rw [← e1] at hO2 ⊢; exact GE_to (ih (k + 1, A', c', I') ⟨by dsimp only; omega, hO2⟩ (by dsimp only; omega)) ⟨rfl, rfl, rfl, rfl, rfl, trivial⟩ HS.last)
    · obtain rfl : k = d.length := (by omega)
      refine GE_exit rfl ?_
      refine GE_seq ?_
      refine GE_slots (L' := [(4, _)]) ⟨rfl, trivial⟩ ?_
      refine GE_plain (.st 0 (.ld 1 [] .nil)) rfl ?_
      refine GT_st rfl rfl rfl rfl (V_move rfl rfl) ?_
      refine GT_ldv rfl rfl rfl rfl rfl (V_assign rfl rfl) (GR_nil) ?_
      refine GT_nil ?_
      refine GE_ret Try.func49 rfl (fun w hw => ⟨(A', c', I'), hO, rfl, hw⟩)
      skip
  · exact ⟨Nat.zero_le _, Own.nil⟩

set_option maxRecDepth 10000 in
set_option maxHeartbeats 2000000 in
theorem C_Has {x : Sus} (hp : RdL w 7 ePlt A p) (hwf : ∀ x ∈ p, Plt.wf x) (hd : RdL w 7 eDsc A2 d) (hdf : ∀ x ∈ d, Dsc.wf x) (hR : Room p d side) (hx : x ∈ causS p d side) :
    Con Try.prog 22 [.slice A p.length c, .slice A2 d.length c2, I side, .agg #[I x.plate, I x.frm]] w (fun y : Option Addr × Nat × Items => Own 1 2 eI (hasS d x) (.slice y.1 (hasS d x).length y.2.1) y.2.2)
      (fun y => .tuple #[.slice y.1 (hasS d x).length y.2.1, I 0]) (fun y => y.2.2) := by
  have hls := serS_len d
  have hlm := stmS_len d side
  have hdl := hR.dl
  refine Ret_of (vs := [_, _, _, _]) hm none' Try.func22 rfl Try.ntmps22 rfl ?_
  dsimp only [slotsOf]
  refine GE_seq ?_
  refine GE_plain (.ld 0 [] (.ld 1 [] (.ld 2 [] .nil))) rfl ?_
  refine GT_box (z := [_, _]) rfl rfl rfl rfl rfl rfl rfl (fun _ => GR_nil) (fun b7 => ?_)
  refine GT_alloc rfl rfl rfl rfl rfl zc_42 (fun _ => GR_nil) (fun b8 => ?_)
  refine GT_alloc rfl rfl rfl rfl rfl zc_24 (fun _ => GR_nil) (fun b9 => ?_)
  refine GT_nil ?_
  refine GE_seq ?_
  refine GE_plain (.st 0 (.st 1 (.st 2 (.ld 3 [] (.st 4 (.st 5 (.st 6 (.ld 7 [] (.ld 8 [] (.st 9 .nil)))))))))) rfl ?_
  refine GT_st rfl rfl rfl rfl (V_move rfl rfl) ?_
  refine GT_st rfl rfl rfl rfl (V_move rfl rfl) ?_
  refine GT_st rfl rfl rfl rfl (V_move rfl rfl) ?_
  refine GT_call rfl rfl rfl rfl rfl rfl rfl rfl rn_47 (fun w hw => C_newRoom_ok (hp.sh hw) hwf (hd.sh hw) hdf hR) (fun _ _ => GR_nil) (fun r hr => ?_)
  obtain ⟨g, ⟨A3, c3, I3⟩, A4, c4, I4⟩ := r; obtain ⟨hO3, hO4⟩ := hr; dsimp only at hO3 hO4 ⊢; rw [hls] at hO3; rw [hlm] at hO4
  refine GT_st rfl rfl rfl rfl (V_move rfl rfl) ?_
  refine GT_st rfl rfl rfl rfl (V_extract rfl rfl rfl) ?_
  refine GT_st rfl rfl rfl rfl (V_extract rfl rfl rfl) ?_
  refine GT_alloc rfl rfl rfl rfl rfl zc_86 (fun _ => GR_nil) (fun b10 => ?_)
  refine GT_store (vs := [_]) (l' := [_]) rfl rfl rfl rfl rfl rfl rfl sz_86 rfl rfl (Nat.le_of_ble_eq_true rfl) rfl (GR_nil) ?_
  refine GT_st rfl rfl rfl rfl (V_assign rfl rfl) ?_
  refine GT_nil ?_
  refine GE_seq ?_
  refine GE_seq ?_
  refine GE_slots (L' := [(7, _), (8, _), (9, _), (10, _), (11, _)]) ⟨rfl, rfl, rfl, rfl, rfl, trivial⟩ ?_
  refine GE_plain (.st 0 (.st 1 .nil)) rfl ?_
  refine GT_st rfl rfl rfl rfl (V_move rfl rfl) ?_
  refine GT_st rfl rfl rfl rfl (V_neq rfl rfl rfl) ?_
  refine GT_nil ?_
  first | refine GE_condNot rfl (fun h0 => ?_) (fun h0 => ?_) | refine GE_cond rfl (fun h0 => ?_) (fun h0 => ?_) | refine GE_condNotB rfl (fun h0 => ?_) (fun h0 => ?_) | refine GE_condB rfl (fun h0 => ?_) (fun h0 => ?_)
  · exact absurd rfl h0
  · skip
    refine GE_skip ?_
    refine GE_seq ?_
    refine GE_seq ?_
    refine GE_plain (.st 0 (.ld 1 [] .nil)) rfl ?_
    refine GT_st rfl rfl rfl rfl (V_load rfl rfl ag_86 (CellAt.item rfl)) ?_
    refine GT_call rfl rfl rfl rfl rfl rfl rfl rfl rn_48 (fun w hw => C_all) (fun _ _ => GR_nil) (fun bb _ => ?_)
    refine GT_nil ?_
    refine GE_block ?_
    refine GE_range rfl rfl rn_63 (fun T l5 q r0 hr0 hT hlk w hw => ?_)
    refine (C_all1 (p := p) (d := d) (side := side) (c := c) (c3 := c3) (c4 := c4) (g := g) (lp := l5) (J := (l5, .loop r0) :: (b7, blk [I x.plate, I x.frm] 46) :: (b8, blk [.slice none 0 0] 42) :: (b9, blk [I 0] 24) :: (b10, blk [ptr g 0] 86) :: []) (G := [(q, .deferred (some []))])
      (Q := fun pre J => (∀ z ∈ pre, z.cau ≠ x.cau) ∧ J = (l5, .loop r0) :: (b7, blk [I x.plate, I x.frm] 46) :: (b8, blk [.slice none 0 0] 42) :: (b9, blk [I 0] 24) :: (b10, blk [ptr g 0] 86) :: [])
      (S := fun J => ∃ A' c' I', Own 1 2 eI (hasS d x) (.slice A' (hasS d x).length c') I' ∧ J = (l5, .loop { r0 with state := .done, pending := some .ret }) :: (b8, blk [.slice A' (hasS d x).length c'] 42) :: (b9, blk [I 0] 24) :: I')
      hp hO3 hO4 hR ?_ ⟨(fun z hz => by cases hz), rfl⟩ (hw.hs ((show HS _ _ ((l5, .loop r0) :: (b7, _) :: (b8, _) :: (b9, _) :: (b10, _) :: ((bb, _) :: (g, _) :: (I3 ++ (I4 ++ [(q, .deferred (some []))])))) from HS.cons rfl (HS.cons rfl (HS.cons rfl (HS.cons rfl (HS.cons rfl (HS.cons rfl (HS.cons rfl (HS.chunk (HS.chunk (HS.cons rfl HS.nil)))))))))).eq (by simp)))).mono (fun v w' ⟨J', hJ, hw'⟩ => ?_)
    · intro pre y J Ax cx Ix hpl hy ⟨hno, hJ⟩ hOx G; subst hJ; subst hr0
      have hyl := causS_len hy
      refine yield_of inferInstance rfl rfl hT hlk rfl rfl hm ?_
      refine GE_slots (L' := [(7, ptr b7 0), (8, ptr b8 0), (9, ptr b9 0), (10, ptr b10 0), (25, .agg #[I y.plate, I y.frm, .slice Ax d.length cx])]) ⟨rfl, rfl, rfl, rfl, rfl, trivial⟩ ?_
      refine GE_plain (.ld 0 [] (.ld 1 [] .nil)) rfl ?_
      refine GT_alloc rfl rfl rfl rfl rfl zc_93 (fun _ => GR_nil) (fun b12 => ?_)
      refine GT_store (vs := [_, _, _]) (l' := [_, _, _]) rfl rfl rfl rfl rfl rfl rfl sz_93 rfl rfl (Nat.le_of_ble_eq_true rfl) rfl (GR_nil) ?_
      refine GT_nil ?_
      refine GE_beginRound rfl ?_
      refine GE_block ?_
      refine GE_seq ?_
      refine GE_plain (.st 0 (.st 1 (.st 2 (.st 3 .nil)))) rfl ?_
      first | refine GT_st rfl rfl rfl rfl (V_field rfl rfl fo_93_0) ?_ | refine GT_st rfl rfl rfl rfl (V_fieldA rfl rfl fo_93_0) ?_
      refine GT_st rfl rfl rfl rfl (V_loadN (vs := [_, _]) rfl rfl ag_46 sz_46 rfl (CellsAt.item rfl)) ?_
      refine GT_st rfl rfl rfl rfl (V_loadN (vs := [_, _]) rfl rfl ag_46 sz_46 rfl (CellsAt.item rfl)) ?_
      refine GT_st rfl rfl rfl rfl (V_eqlTwo rfl rfl rfl Try.underlying46 (by decide) (by decide) rfl rfl Try.underlying3 Try.underlying2 cau_stood cau_guard) ?_
      refine GT_nil ?_
      first | refine GE_condNot rfl (fun h1 => ?_) (fun h1 => ?_) | refine GE_cond rfl (fun h1 => ?_) (fun h1 => ?_) | refine GE_condNotB rfl (fun h1 => ?_) (fun h1 => ?_) | refine GE_condB rfl (fun h1 => ?_) (fun h1 => ?_)
      · have heq : y = x := cau_has hR.dsok hy hx (by simp at h1; unfold Sus.cau; rw [h1.1, h1.2]); subst heq
        refine GE_seq ?_
        refine GE_slots (L' := [(8, _), (9, _), (10, _), (12, _)]) ⟨rfl, rfl, rfl, rfl, trivial⟩ ?_
        refine GE_drawn (.st 0 (.st 1 (.st 2 (.st 3 (.st 4 (.st 5 (.ld 6 [] (.ld 7 [] (.ld 8 [] .nil))))))))) [6, 7, 8] (by decide +kernel) ?_
        first | refine GT_st rfl rfl rfl rfl (V_field rfl rfl fo_93_1) ?_ | refine GT_st rfl rfl rfl rfl (V_fieldA rfl rfl fo_93_1) ?_
        refine GT_st rfl rfl rfl rfl (V_load rfl rfl ag_91 (CellAt.item rfl)) ?_
        refine GT_st rfl rfl rfl rfl (V_load rfl rfl ag_86 (CellAt.item rfl)) ?_
        first | refine GT_st rfl rfl rfl rfl (V_nilCheck rfl rfl) ?_ | refine GT_st rfl rfl rfl rfl (V_nilCheck_func rfl rfl) ?_ | refine GT_st rfl rfl rfl rfl (V_nilCheck_yield rfl rfl) ?_
        first | refine GT_st rfl rfl rfl rfl (V_field rfl rfl fo_101_1) ?_ | refine GT_st rfl rfl rfl rfl (V_fieldA rfl rfl fo_101_1) ?_
        refine GT_st rfl rfl rfl rfl (V_load rfl rfl ag_42 (CellAt.item rfl)) ?_
        refine GT_call rfl rfl rfl rfl rfl rfl rfl rfl rn_49 (fun w hw => C_set_of (hOx.rdH eB_len hw) (hO3.rdH eI_len hw) hyl hdl) (fun _ _ => GR_nil) (fun u hu => ?_)
        refine GT_store (vs := [_]) (l' := [_]) rfl rfl rfl rfl rfl rfl rfl sz_42 rfl rfl (Nat.le_of_ble_eq_true rfl) rfl (GR_nil) ?_
        refine GT_store (vs := [_]) (l' := [_]) rfl rfl rfl rfl rfl rfl rfl sz_24 rfl rfl (Nat.le_of_ble_eq_true rfl) rfl (GR_nil) ?_
        refine GT_nil ?_
        obtain ⟨A', c', I'⟩ := u; refine GE_leave (some .ret) rfl (fun w hw => ⟨_, ⟨false, _, rfl, rfl, (fun q => by cases q), fun _ => ⟨A', c', I', hu, rfl⟩⟩, ?_⟩)
        exact hw.hs (HS.cons rfl (HS.cons rfl (HS.cons rfl (HS.chunk (HS.cons rfl (HS.chunk HS.last))))))
      · have hne : y.cau ≠ x.cau := (fun q => by simp [Sus.cau] at q h1; exact h1 q.1 q.2)
        refine GE_skip ?_
        refine GE_inBlock ?_
        refine GE_leave none rfl (fun w hw => ⟨_, ⟨true, _, rfl, rfl, fun _ => ⟨?_, rfl⟩, fun q => by cases q⟩, ?_⟩)
        · intro z hz; rcases List.mem_append.1 hz with hz | hz
          · exact hno z hz
          · rw [List.mem_singleton.1 hz]; exact hne
        · exact hw.hs (HS.cons rfl (HS.cons rfl (HS.cons rfl (HS.cons rfl (HS.cons rfl (HS.cons rfl (HS.chunk HS.last)))))))
    · rcases hJ with ⟨hno, hJ'⟩ | ⟨A', c', I', hO, hJ'⟩
      rotate_left
      · subst hJ'; subst hr0
        refine ⟨_, (b8, blk [.slice A' (hasS d x).length c'] 42) :: (b9, blk [I 0] 24) :: I', ?_, hw'.hs (HS.cons rfl (HS.cons rfl (HS.cons rfl (HS.cons rfl HS.last)))), ?_⟩
        · intro h; cases h
        refine GE_D (D' := dq [q]) ?_ rfl
        refine GE_retq (qs := [q]) Try.func22 ⟨_, _, ⟨_, rfl, fun w m => run_loadVar_one ag_42 (CellAt.item rfl w m)⟩, ⟨_, rfl, fun w m => run_loadVar_one ag_24 (CellAt.item rfl w m)⟩, rfl⟩ (fun w hw => ?_)
        exact ⟨(A', c', I'), hO, rfl, SH.hs (C := cx Try.prog hm 0 0 _ none' fun _ _ => True) hw HS.last⟩
      subst hJ'; subst hr0
      refine ⟨_, (b8, blk [.slice none 0 0] 42) :: (b9, blk [I 0] 24) :: [], ?_, hw'.hs (HS.cons rfl (HS.cons rfl (HS.cons rfl (HS.cons rfl HS.nil)))), ?_⟩
      · intro h; cases h
      refine GE_D (D' := dq [q]) ?_ rfl
      refine GE_inBlock ?_
      refine GE_seq ?_
      refine GE_slots (L' := [(8, _), (9, _)]) ⟨rfl, rfl, trivial⟩ ?_
      refine GE_plain (.ld 0 [] (.ld 1 [] .nil)) rfl ?_
      refine GT_store (vs := [_]) (l' := [_]) rfl rfl rfl rfl rfl rfl rfl sz_42 rfl rfl (Nat.le_of_ble_eq_true rfl) rfl (GR_nil) ?_
      refine GT_store (vs := [_]) (l' := [_]) rfl rfl rfl rfl rfl rfl rfl sz_24 rfl rfl (Nat.le_of_ble_eq_true rfl) rfl (GR_nil) ?_
      refine GT_nil ?_
      refine GE_retq Try.func22 ⟨_, _, ⟨_, rfl, fun w m => run_loadVar_one ag_42 (CellAt.item rfl w m)⟩, ⟨_, rfl, fun w m => run_loadVar_one ag_24 (CellAt.item rfl w m)⟩, rfl⟩ (fun w hw => ?_)
      exact absurd rfl (hno x hx)
end
end Go.Proofs.Ytfaggcmcfhljpaa
