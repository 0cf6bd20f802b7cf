/- The causes left, how many a disc has, and the next disc: walked. -/
import Derived.Test.YtfaggcmcfhljpaaLi8
namespace Go.Proofs.Ytfaggcmcfhljpaa
open Go.Sx Go.Proofs

section
variable {p : List Plt} {d : List Dsc} {h : List Hrg} {A A2 A5 : Option Addr} {c c2 c5 : Nat} {side : Int} {w : World}
theorem C_left_ok (hp : RdL w 7 ePlt A p) (hwf : ∀ x ∈ p, Plt.wf x) (hd : RdL w 7 eDsc A2 d) (hdf : ∀ x ∈ d, Dsc.wf x) (hh : RdL w 2 eHrg A5 h) (he : hearE p d side h = 0) :
    Con Try.prog 46 [.slice A p.length c, .slice A2 d.length c2, I side, .slice A5 h.length c5] w (LeftOk p d side h) (fun y => .tuple #[ptr y.g 0, .slice y.Al y.l.length y.cl, I 0]) (fun y => y.items A p.length d.length c) :=
  Ret.mono (C_left hp hwf hd hdf hh) fun v w' ⟨o, ho, hv, hw⟩ => by
    cases o with
    | none => exact absurd he ho
    | some y => exact ⟨y, ho.2, hv, hw⟩
theorem C_left_err (hp : RdL w 7 ePlt A p) (hwf : ∀ x ∈ p, Plt.wf x) (hd : RdL w 7 eDsc A2 d) (hdf : ∀ x ∈ d, Dsc.wf x) (hh : RdL w 2 eHrg A5 h) (he : hearE p d side h ≠ 0) :
    Con0 Try.prog 46 [.slice A p.length c, .slice A2 d.length c2, I side, .slice A5 h.length c5] w (.tuple #[.pointer none, .slice none 0 0, I (hearE p d side h)]) :=
  Ret.mono (C_left hp hwf hd hdf hh) fun v w' ⟨o, ho, hv, hw⟩ => by
    cases o with
    | none => exact ⟨hv, hw⟩
    | some y => exact absurd ho.1 he
def causL (p : List Plt) (d : List Dsc) (side : Int) (h : List Hrg) : List Cau := if hearE p d side h = 0 then (leftS p d side h).map Sus.cau else []
theorem leftS_le {p : List Plt} {d : List Dsc} {side : Int} {h : List Hrg} (hR : Room p d side) : (leftS p d side h).length ≤ 70000 := Nat.le_trans (List.length_filter_le _ _) (causS_le hR.dl hR.pl)

set_option maxRecDepth 10000 in
theorem C_Causes (hp : RdL w 7 ePlt A p) (hwf : ∀ x ∈ p, Plt.wf x) (hd : RdL w 7 eDsc A2 d) (hdf : ∀ x ∈ d, Dsc.wf x) (hh : RdL w 2 eHrg A5 h) :
    Con Try.prog 21 [.slice A p.length c, .slice A2 d.length c2, I side, .slice A5 h.length c5] w (fun y : Option Addr × Nat × Items => Own 2 46 eCau (causL p d side h) (.slice y.1 (causL p d side h).length y.2.1) y.2.2)
      (fun y => .tuple #[.slice y.1 (causL p d side h).length y.2.1, I (hearE p d side h)]) (fun y => y.2.2) := by
  by_cases he : hearE p d side h = 0
  · have hR := (hearE_zero.1 he).1
    have hle := leftS_le (h := h) hR
    have hcl : causL p d side h = (leftS p d side h).map Sus.cau := if_pos he
    refine Ret_of (vs := [_, _, _, _]) hm none' Try.func21 rfl Try.ntmps21 rfl ?_
    dsimp only [slotsOf]
    refine GE_seq ?_
    refine GE_plain (.st 0 (.st 1 .nil)) rfl ?_
    refine GT_st rfl rfl rfl rfl (V_assign rfl rfl) ?_
    refine GT_st rfl rfl rfl rfl (V_assign rfl rfl) ?_
    refine GT_nil ?_
    refine GE_seq ?_
    refine GE_plain (.st 0 (.st 1 (.st 2 (.st 3 (.ld 4 [] (.st 5 (.st 6 (.st 7 (.st 8 (.st 9 (.st 10 (.st 11 .nil)))))))))))) rfl ?_
    refine GT_st rfl rfl rfl rfl (V_move rfl rfl) ?_
    refine GT_st rfl rfl rfl rfl (V_move rfl rfl) ?_
    refine GT_st rfl rfl rfl rfl (V_move rfl rfl) ?_
    refine GT_st rfl rfl rfl rfl (V_move rfl rfl) ?_
    refine GT_call rfl rfl rfl rfl rfl rfl rfl rfl rn_46 (fun w hw => C_left_ok (hp.sh hw) hwf (hd.sh hw) hdf (hh.sh hw) he) (fun _ _ => GR_nil) (fun y hy => ?_)
    obtain ⟨g, A3, c3, I3, A4, c4, I4, l, Al, cl, Il, Ih⟩ := y; obtain ⟨hO3, hO4, hL⟩ := hy; dsimp only [LeftY.items] at hO3 hO4 hL ⊢; have hll := hL.len
    refine GT_st rfl rfl rfl rfl (V_move rfl rfl) ?_
    refine GT_st rfl rfl rfl rfl (V_extract rfl rfl rfl) ?_
    refine GT_st rfl rfl rfl rfl (V_extract rfl rfl rfl) ?_
    refine GT_st rfl rfl rfl rfl (V_extract rfl rfl rfl) ?_
    refine GT_st rfl rfl rfl rfl (V_assign rfl rfl) ?_
    refine GT_st rfl rfl rfl rfl (V_assign rfl rfl) ?_
    refine GT_st rfl rfl rfl rfl (V_assign rfl rfl) ?_
    refine GT_nil ?_
    refine GE_seq ?_
    refine GE_slots (L' := [(11, _), (12, _)]) ⟨rfl, rfl, trivial⟩ ?_
    refine GE_plain (.st 0 .nil) rfl ?_
    refine GT_st rfl rfl rfl rfl (V_assign rfl rfl) ?_
    refine GT_nil ?_
    refine GE_seq ?_
    refine GE_seq ?_
    refine GE_plain (.st 0 (.st 1 (.st 2 .nil))) rfl ?_
    refine GT_st rfl rfl rfl rfl (V_move rfl rfl) ?_
    refine GT_st rfl rfl rfl rfl (V_len rfl Try.underlying87 rfl) ?_
    refine GT_st rfl rfl rfl rfl (V_move rfl rfl) ?_
    refine GT_nil ?_
    refine GE_block ?_
    refine GE_to (GE_loop (ι := Nat × Option Addr × Nat × Items) (fun x => l.length - x.1) (fun x => [(12, I 0), (13, .slice x.2.1 ((l.take x.1).map fun y => y.x.cau).length x.2.2.1), (25, .slice Al l.length cl), (26, I l.length), (27, I x.1)]) (fun x => x.2.2.2 ++ Il) (fun x => x.1 ≤ l.length ∧ Own 2 46 eCau ((l.take x.1).map fun y => y.x.cau) (.slice x.2.1 ((l.take x.1).map fun y => y.x.cau).length x.2.2.1) x.2.2.2) ?_ (0, none, 0, []) ?_) ⟨rfl, rfl, rfl, rfl, rfl, trivial⟩ (HS.chunk (I := []) HS.last)
    · rintro ⟨k, A', c', I'⟩ ⟨hk, hO⟩ ih; dsimp only at hk hO ih ⊢
      refine GE_seq ?_
      refine GE_plain (.st 0 .nil) rfl ?_
      refine GT_st rfl rfl rfl rfl (V_lss rfl rfl rfl) ?_
      refine GT_nil ?_
      refine GE_seq ?_
      first | refine GE_condNot rfl (fun h1 => ?_) (fun h1 => ?_) | refine GE_cond rfl (fun h1 => ?_) (fun h1 => ?_) | refine GE_condNotB rfl (fun h1 => ?_) (fun h1 => ?_) | refine GE_condB rfl (fun h1 => ?_) (fun h1 => ?_)
      · have hkl : k < l.length := (by omega); have e1 : ((l.take k).map fun y => y.x.cau) ++ [(l.getD k default).x.cau] = (l.take (k + 1)).map fun y => y.x.cau := (by rw [List.take_succ_eq_append_getElem hkl, List.map_append]; simp [List.getD, hkl]); have htl : ((l.take k).map fun y => y.x.cau).length = k := (by rw [List.length_map, List.length_take]; omega)
        refine GE_skip ?_
        refine GE_seq ?_
        refine GE_block ?_
        refine GE_seq ?_
        refine GE_plain (.st 0 (.st 1 (.ld 2 [] (.ld 3 [] .nil)))) rfl ?_
        refine GT_st rfl rfl rfl rfl (V_index rfl rfl rfl Try.underlying87 sz_93 (k := k) rfl hkl (hL.own.isSome (k := k) hkl)) ?_
        refine GT_st rfl rfl rfl rfl (V_loadN (vs := [_, _, _]) rfl rfl ag_93 sz_93 rfl (CellsAt.own hL.own eSus_len hkl)) ?_
        refine GT_alloc rfl rfl rfl rfl rfl zc_93 (fun _ => GR_nil) (fun b15 => ?_)
        refine GT_store (vs := [_, _, _]) (l' := [_, _, _]) rfl rfl rfl rfl rfl rfl rfl sz_93 rfl rfl (Nat.le_of_ble_eq_true rfl) rfl (GR_nil) ?_
        refine GT_nil ?_
        refine GE_plain (.st 0 (.st 1 (.st 2 (.ld 3 [] (.ld 4 [] (.ld 5 [] .nil)))))) rfl ?_
        refine GT_st rfl rfl rfl rfl (V_move rfl rfl) ?_
        first | refine GT_st rfl rfl rfl rfl (V_field rfl rfl fo_93_0) ?_ | refine GT_st rfl rfl rfl rfl (V_fieldA rfl rfl fo_93_0) ?_
        refine GT_st rfl rfl rfl rfl (V_loadN (vs := [_, _]) rfl rfl ag_46 sz_46 rfl (CellsAt.item rfl)) ?_
        refine GT_buildSlice (z := [_, _]) rfl rfl rfl rfl rfl Try.underlying39 zc_46 sz_46 (by decide) rfl rfl (fun _ => GR_nil) (fun b34 => ?_)
        refine GT_append (enc := eCau) (m := [(l.getD k default).x.cau]) rfl rfl rfl rfl rfl rfl rfl hO (fun w m => RdL.own' m eCau_len) Try.underlying39 zc_46 sz_46 ⟨rfl, by decide⟩ by_46 ⟨by simp only [List.length_singleton]; omega, by simp only [List.length_singleton]; omega⟩ eCau_len eCau_one (fun _ _ _ _ => GR_nil) (fun A2' c2' I2' hO2 => ?_)
        refine GT_ldv rfl rfl rfl rfl rfl (V_assign rfl rfl) (GR_nil) ?_
        refine GT_nil ?_
        refine GE_inBlock ?_
        refine GE_slots (L' := [(12, _), (13, _), (25, _), (26, _), (27, _)]) ⟨rfl, rfl, rfl, rfl, rfl, trivial⟩ ?_
        refine GE_plain (.st 0 (.ld 1 [] .nil)) rfl ?_
        refine GT_st rfl rfl rfl rfl (V_add rfl rfl rfl (wrap_i64 (by omega))) ?_
        refine GT_ldv rfl rfl rfl rfl rfl (V_move rfl rfl) (GR_nil) ?_
        refine GT_nil ?_
        rw [e1] at hO2 ⊢; exact GE_to (ih (k + 1, A2', c2', I2') ⟨by dsimp only; omega, hO2⟩ (by dsimp only; omega)) ⟨rfl, rfl, rfl, rfl, rfl, trivial⟩ (HS.chunk HS.last)
      · obtain rfl : k = l.length := (by omega); rw [List.take_length] at hO ⊢
        refine GE_exit rfl ?_
        refine GE_seq ?_
        refine GE_slots (L' := [(12, _), (13, _)]) ⟨rfl, rfl, trivial⟩ ?_
        refine GE_plain (.st 0 (.st 1 (.st 2 (.st 3 .nil)))) rfl ?_
        refine GT_st rfl rfl rfl rfl (V_move rfl rfl) ?_
        refine GT_st rfl rfl rfl rfl (V_move rfl rfl) ?_
        refine GT_st rfl rfl rfl rfl (V_assign rfl rfl) ?_
        refine GT_st rfl rfl rfl rfl (V_assign rfl rfl) ?_
        refine GT_nil ?_
        refine GE_ret Try.func21 ⟨_, _, rfl, rfl, rfl⟩ (fun w hw => ?_)
        have e2 : (l.map fun y => y.x.cau) = causL p d side h := (by rw [hcl, ← hL.eq, List.map_map]; rfl); rw [e2] at hO ⊢; rw [he]; exact ⟨(A', c', I'), hO, rfl, hw.chunk⟩
    · exact ⟨Nat.zero_le _, Own.nil⟩
  · have hcl : causL p d side h = [] := if_neg he
    refine Ret_of (vs := [_, _, _, _]) hm none' Try.func21 rfl Try.ntmps21 rfl ?_
    dsimp only [slotsOf]
    refine GE_seq ?_
    refine GE_plain (.st 0 (.st 1 .nil)) rfl ?_
    refine GT_st rfl rfl rfl rfl (V_assign rfl rfl) ?_
    refine GT_st rfl rfl rfl rfl (V_assign rfl rfl) ?_
    refine GT_nil ?_
    refine GE_seq ?_
    refine GE_plain (.st 0 (.st 1 (.st 2 (.st 3 (.ld 4 [] (.st 5 (.st 6 (.st 7 (.st 8 (.st 9 (.st 10 (.st 11 .nil)))))))))))) rfl ?_
    refine GT_st rfl rfl rfl rfl (V_move rfl rfl) ?_
    refine GT_st rfl rfl rfl rfl (V_move rfl rfl) ?_
    refine GT_st rfl rfl rfl rfl (V_move rfl rfl) ?_
    refine GT_st rfl rfl rfl rfl (V_move rfl rfl) ?_
    refine GT_call0 rfl rfl rfl rfl rfl rfl rfl rfl rn_46 (fun w hw => C_left_err (hp.sh hw) hwf (hd.sh hw) hdf (hh.sh hw) he) (GR_nil) ?_
    refine GT_st rfl rfl rfl rfl (V_move rfl rfl) ?_
    refine GT_st rfl rfl rfl rfl (V_extract rfl rfl rfl) ?_
    refine GT_st rfl rfl rfl rfl (V_extract rfl rfl rfl) ?_
    refine GT_st rfl rfl rfl rfl (V_extract rfl rfl rfl) ?_
    refine GT_st rfl rfl rfl rfl (V_assign rfl rfl) ?_
    refine GT_st rfl rfl rfl rfl (V_assign rfl rfl) ?_
    refine GT_st rfl rfl rfl rfl (V_assign rfl rfl) ?_
    refine GT_nil ?_
    refine GE_seq ?_
    refine GE_slots (L' := [(11, _), (12, _)]) ⟨rfl, rfl, trivial⟩ ?_
    refine GE_plain (.st 0 .nil) rfl ?_
    refine GT_st rfl rfl rfl rfl (V_assign rfl rfl) ?_
    refine GT_nil ?_
    refine GE_seq ?_
    refine GE_seq ?_
    refine GE_plain (.st 0 (.st 1 (.st 2 .nil))) rfl ?_
    refine GT_st rfl rfl rfl rfl (V_move rfl rfl) ?_
    refine GT_st rfl rfl rfl rfl (V_len rfl Try.underlying87 rfl) ?_
    refine GT_st rfl rfl rfl rfl (V_move rfl rfl) ?_
    refine GT_nil ?_
    refine GE_block ?_
    refine GE_to (GE_loop (ι := Nat) (fun k => 0) (fun k => [(12, I (hearE p d side h)), (13, .slice none 0 0), (25, .slice none 0 0), (26, I 0), (27, I 0)]) (fun k => []) (fun k => k = 0) ?_ 0 ?_) ⟨rfl, rfl, rfl, rfl, rfl, trivial⟩ HS.nil
    · rintro k hk ih
      refine GE_seq ?_
      refine GE_plain (.st 0 .nil) rfl ?_
      refine GT_st rfl rfl rfl rfl (V_lss rfl rfl rfl) ?_
      refine GT_nil ?_
      refine GE_seq ?_
      first | refine GE_condNot rfl (fun h1 => ?_) (fun h1 => ?_) | refine GE_cond rfl (fun h1 => ?_) (fun h1 => ?_) | refine GE_condNotB rfl (fun h1 => ?_) (fun h1 => ?_) | refine GE_condB rfl (fun h1 => ?_) (fun h1 => ?_)
      · exact absurd h1 (by decide)
      · skip
        refine GE_exit rfl ?_
        refine GE_seq ?_
        refine GE_slots (L' := [(12, _), (13, _)]) ⟨rfl, rfl, trivial⟩ ?_
        refine GE_plain (.st 0 (.st 1 (.st 2 (.st 3 .nil)))) rfl ?_
        refine GT_st rfl rfl rfl rfl (V_move rfl rfl) ?_
        refine GT_st rfl rfl rfl rfl (V_move rfl rfl) ?_
        refine GT_st rfl rfl rfl rfl (V_assign rfl rfl) ?_
        refine GT_st rfl rfl rfl rfl (V_assign rfl rfl) ?_
        refine GT_nil ?_
        refine GE_ret Try.func21 ⟨_, _, rfl, rfl, rfl⟩ (fun w hw => ?_)
        rw [hcl]; exact ⟨(none, 0, []), Own.nil, rfl, hw.nil⟩
    · exact rfl

/-! how many of the causes a disc has -/
theorem mny_take {xs : List Sus} {k i : Nat} (hk : k < xs.length) : mny (xs.take (k + 1)) i = mny (xs.take k) i + if (xs.getD k default).has.getD i default then 1 else 0 := by
  unfold mny
  rw [List.take_succ_eq_append_getElem hk, List.countP_append, List.countP_singleton]
  have e : xs[k] = xs.getD k default := by simp [List.getD, hk]
  rw [e]
theorem mny_take_le {xs : List Sus} {k i : Nat} : mny (xs.take k) i ≤ k := Nat.le_trans (mny_le _ _) (by rw [List.length_take]; omega)
def manyL (d : List Dsc) (xs : List Sus) : List Int := (List.range d.length).map fun i => (mny xs i : Int)
theorem manyL_len (d : List Dsc) (xs : List Sus) : (manyL d xs).length = d.length := by simp [manyL]
theorem manyL_get {xs : List Sus} {i : Nat} (hi : i < d.length) : (manyL d xs).getD i default = mny xs i := by simp [manyL, List.getD, hi]
set_option maxRecDepth 10000 in
theorem C_many {l : List SusA} {Al A3 A4 : Option Addr} {np c3 c4 cl g : Nat} (hb : BlkAt w g (roomC A A3 A4 np d.length c c3 c4) 101) (hl : RdL w 3 eSus Al l) (hhas : ∀ y ∈ l, RdL w 1 eB y.A y.x.has) (hn : ∀ y ∈ l, y.n = d.length ∧ y.x.has.length = d.length) (hdl : d.length ≤ 200) (hll : l.length ≤ 70000) :
    Con Try.prog 53 [ptr g 0, .slice Al l.length cl] w (fun y : Nat × Items => Own 1 3 eI (manyL d (l.map SusA.x)) (.slice (some ⟨y.1, 0, none⟩) d.length d.length) y.2) (fun y => .slice (some ⟨y.1, 0, none⟩) d.length d.length) (fun y => y.2) := by
  have hxl : (l.map SusA.x).length = l.length := List.length_map ..
  have hxg : ∀ k, k < l.length → (l.map SusA.x).getD k default = (l.getD k default).x := fun k hk => by simp [List.getD, hk]
  refine Ret_of (vs := [_, _]) hm none' Try.func53 rfl Try.ntmps53 rfl ?_
  dsimp only [slotsOf]
  refine GE_seq ?_
  refine GE_plain (.st 0 .nil) rfl ?_
  refine GT_st rfl rfl rfl rfl (V_assign rfl rfl) ?_
  refine GT_nil ?_
  refine GE_seq ?_
  refine GE_plain (.st 0 (.st 1 (.st 2 (.st 3 (.st 4 (.ld 5 [] (.st 6 .nil))))))) rfl ?_
  refine GT_st rfl rfl rfl rfl (V_move rfl rfl) ?_
  first | refine GT_st rfl rfl rfl rfl (V_nilCheck rfl rfl) ?_ | refine GT_st rfl rfl rfl rfl (V_nilCheck_func rfl rfl) ?_ | refine GT_st rfl rfl rfl rfl (V_nilCheck_yield rfl rfl) ?_
  first | refine GT_st rfl rfl rfl rfl (V_field rfl rfl fo_101_1) ?_ | refine GT_st rfl rfl rfl rfl (V_fieldA rfl rfl fo_101_1) ?_
  first | refine GT_st rfl rfl rfl rfl (V_load rfl rfl ag_42 (CellAt.item rfl)) ?_ | refine GT_st rfl rfl rfl rfl (V_load rfl rfl ag_42 (CellAt.old (hb.cell rfl) (noM _))) ?_
  refine GT_st rfl rfl rfl rfl (V_len rfl Try.underlying42 rfl) ?_
  refine GT_makeSlice rfl rfl rfl rfl rfl rfl rfl Try.underlying66 zc_3 sz_3 by_3 ⟨rfl, rfl, rfl⟩ ⟨by omega, by omega⟩ (fun _ => GR_nil) (fun b15 => ?_)
  refine GT_st rfl rfl rfl rfl (V_assign rfl rfl) ?_
  refine GT_nil ?_
  refine GE_seq ?_
  refine GE_seq ?_
  refine GE_slots (L' := [(1, _), (5, _)]) ⟨rfl, rfl, trivial⟩ ?_
  refine GE_plain (.st 0 (.st 1 (.st 2 .nil))) rfl ?_
  refine GT_st rfl rfl rfl rfl (V_move rfl rfl) ?_
  refine GT_st rfl rfl rfl rfl (V_len rfl Try.underlying87 rfl) ?_
  refine GT_st rfl rfl rfl rfl (V_move rfl rfl) ?_
  refine GT_nil ?_
  refine GE_block ?_
  refine GE_to (GE_loop (ι := Nat × List Int × Items) (fun x => l.length - x.1) (fun x => [(5, .slice (some ⟨b15, 0, none⟩) d.length d.length), (16, .slice Al l.length cl), (17, I l.length), (18, I x.1)]) (fun x => x.2.2) (fun x => x.1 ≤ l.length ∧ x.2.1.length = d.length ∧ (∀ i, i < d.length → x.2.1.getD i default = mny ((l.map SusA.x).take x.1) i) ∧ Own 1 3 eI x.2.1 (.slice (some ⟨b15, 0, none⟩) d.length d.length) x.2.2) ?_ (0, List.replicate d.length 0, [(b15, blk ((List.replicate d.length [I 0]).flatten) 3)]) ?_) ⟨rfl, rfl, rfl, rfl, trivial⟩ HS.last
  · rintro ⟨k, o, I1⟩ ⟨hk, hol, hoi, hO⟩ ih; dsimp only at hk hol hoi hO ih ⊢
    refine GE_seq ?_
    refine GE_plain (.st 0 .nil) rfl ?_
    refine GT_st rfl rfl rfl rfl (V_lss rfl rfl rfl) ?_
    refine GT_nil ?_
    refine GE_seq ?_
    first | refine GE_condNot rfl (fun h1 => ?_) (fun h1 => ?_) | refine GE_cond rfl (fun h1 => ?_) (fun h1 => ?_) | refine GE_condNotB rfl (fun h1 => ?_) (fun h1 => ?_) | refine GE_condB rfl (fun h1 => ?_) (fun h1 => ?_)
    · have hkl : k < l.length := (by omega); have hym : l.getD k default ∈ l := (by simp [List.getD, hkl]); obtain ⟨hn1, hn2⟩ := hn _ hym; have hyr := hhas _ hym
      refine GE_skip ?_
      refine GE_seq ?_
      refine GE_block ?_
      refine GE_seq ?_
      refine GE_plain (.st 0 (.st 1 (.ld 2 [] (.ld 3 [] .nil)))) rfl ?_
      refine GT_st rfl rfl rfl rfl (V_index rfl rfl rfl Try.underlying87 sz_93 (k := k) rfl hkl (hl.isSome hkl)) ?_
      refine GT_st rfl rfl rfl rfl (V_loadN (vs := [_, _, _]) rfl rfl ag_93 sz_93 rfl (hl.ats noM hkl)) ?_
      refine GT_alloc rfl rfl rfl rfl rfl zc_93 (fun _ => GR_nil) (fun b7 => ?_)
      refine GT_store (vs := [_, _, _]) (l' := [_, _, _]) rfl rfl rfl rfl rfl rfl rfl sz_93 rfl rfl (Nat.le_of_ble_eq_true rfl) rfl (GR_nil) ?_
      refine GT_nil ?_
      refine GE_seq ?_
      refine GE_plain (.st 0 (.st 1 (.st 2 (.st 3 .nil)))) rfl ?_
      first | refine GT_st rfl rfl rfl rfl (V_field rfl rfl fo_93_1) ?_ | refine GT_st rfl rfl rfl rfl (V_fieldA rfl rfl fo_93_1) ?_
      first | refine GT_st rfl rfl rfl rfl (V_load rfl rfl ag_91 (CellAt.item rfl)) ?_ | refine GT_st rfl rfl rfl rfl (V_load rfl rfl ag_91 (CellAt.old (hb.cell rfl) (noM _))) ?_
      refine GT_st rfl rfl rfl rfl (V_len rfl Try.underlying91 rfl) ?_
      refine GT_st rfl rfl rfl rfl (V_move rfl rfl) ?_
      refine GT_nil ?_
      refine GE_block ?_
      refine GE_to (GE_loop (ι := Nat × List Int × Items) (fun x => d.length - x.1) (fun x => [(5, .slice (some ⟨b15, 0, none⟩) d.length d.length), (16, .slice Al l.length cl), (17, I l.length), (18, I k), (23, .slice (l.getD k default).A (l.getD k default).n (l.getD k default).c), (24, I (l.getD k default).n), (25, I x.1)]) (fun x => x.2.2) (fun x => x.1 ≤ d.length ∧ x.2.1.length = d.length ∧ (∀ i, i < x.1 → x.2.1.getD i default = mny ((l.map SusA.x).take (k + 1)) i) ∧ (∀ i, x.1 ≤ i → i < d.length → x.2.1.getD i default = mny ((l.map SusA.x).take k) i) ∧ Own 1 3 eI x.2.1 (.slice (some ⟨b15, 0, none⟩) d.length d.length) x.2.2) ?_ (0, o, I1) ?_) ⟨rfl, rfl, rfl, rfl, rfl, rfl, rfl, trivial⟩ HS.last
      · rintro ⟨j, o2, I2⟩ ⟨hj, ho2l, hlo, hhi, hO2⟩ ih2; dsimp only at hj ho2l hlo hhi hO2 ih2 ⊢
        refine GE_seq ?_
        refine GE_plain (.st 0 .nil) rfl ?_
        refine GT_st rfl rfl rfl rfl (V_lss rfl rfl rfl) ?_
        refine GT_nil ?_
        refine GE_seq ?_
        first | refine GE_condNot rfl (fun h2 => ?_) (fun h2 => ?_) | refine GE_cond rfl (fun h2 => ?_) (fun h2 => ?_) | refine GE_condNotB rfl (fun h2 => ?_) (fun h2 => ?_) | refine GE_condB rfl (fun h2 => ?_) (fun h2 => ?_)
        · have hjl : j < d.length := (by omega); have hmt := mny_take (xs := l.map SusA.x) (k := k) (i := j) (by omega); rw [hxg k hkl] at hmt; have hmk := mny_take_le (xs := l.map SusA.x) (k := k) (i := j); have hov := hhi j (Nat.le_refl _) hjl
          refine GE_skip ?_
          refine GE_seq ?_
          refine GE_block ?_
          refine GE_seq ?_
          refine GE_plain (.st 0 (.st 1 (.st 2 (.st 3 (.st 4 .nil))))) rfl ?_
          refine GT_st rfl rfl rfl rfl (V_move rfl rfl) ?_
          refine GT_st rfl rfl rfl rfl (V_index rfl rfl rfl Try.underlying91 sz_4 (k := j) rfl (by omega) (hyr.isSome (k := j) (by omega))) ?_
          refine GT_st rfl rfl rfl rfl (V_load rfl rfl ag_4 (hyr.at0 noM (by omega) rfl)) ?_
          refine GT_st rfl rfl rfl rfl (V_assign rfl rfl) ?_
          refine GT_st rfl rfl rfl rfl (V_assign rfl rfl) ?_
          refine GT_nil ?_
          refine GE_seq ?_
          refine GE_slots (L' := [(5, _), (8, _), (9, _), (16, _), (17, _), (18, _), (23, _), (24, _), (25, _)]) ⟨rfl, rfl, rfl, rfl, rfl, rfl, rfl, rfl, rfl, trivial⟩ ?_
          refine GE_plain (.st 0 .nil) rfl ?_
          refine GT_st rfl rfl rfl rfl (V_move rfl rfl) ?_
          refine GT_nil ?_
          first | refine GE_condNot rfl (fun hej => ?_) (fun hej => ?_) | refine GE_cond rfl (fun hej => ?_) (fun hej => ?_) | refine GE_condNotB rfl (fun hej => ?_) (fun hej => ?_) | refine GE_condB rfl (fun hej => ?_) (fun hej => ?_)
          · skip
            refine GE_plain (.st 0 (.st 1 (.st 2 (.st 3 (.st 4 (.st 5 (.ld 6 [] .nil))))))) rfl ?_
            refine GT_st rfl rfl rfl rfl (V_move rfl rfl) ?_
            refine GT_st rfl rfl rfl rfl (V_move rfl rfl) ?_
            refine GT_st rfl rfl rfl rfl (V_index rfl rfl rfl Try.underlying66 sz_3 (k := j) rfl hjl rfl) ?_
            refine GT_st rfl rfl rfl rfl (V_load rfl rfl ag_3 (CellAt.own0 hO2 eI_len (by omega) (by rw [hov]; rfl))) ?_
            refine GT_st rfl rfl rfl rfl (V_add rfl rfl rfl (wrap_i64 (by omega))) ?_
            refine GT_st rfl rfl rfl rfl (V_index rfl rfl rfl Try.underlying66 sz_3 (k := j) rfl hjl rfl) ?_
            refine GT_storeOwn (enc := eI) (q := j) (xx := (mny ((l.map SusA.x).take k) j : Int) + 1) rfl rfl rfl rfl rfl rfl rfl sz_3 hO2 eI_len eI_one (by omega) (by decide) (fun _ _ => GR_nil) (fun I3 hO3 => ?_)
            refine GT_nil ?_
            refine GE_inBlock ?_
            refine GE_slots (L' := [(5, _), (16, _), (17, _), (18, _), (23, _), (24, _), (25, _)]) ⟨rfl, rfl, rfl, rfl, rfl, rfl, rfl, trivial⟩ ?_
            refine GE_plain (.st 0 (.ld 1 [] .nil)) rfl ?_
            refine GT_st rfl rfl rfl rfl (V_add rfl rfl rfl (wrap_i64 (by omega))) ?_
            refine GT_ldv rfl rfl rfl rfl rfl (V_move rfl rfl) (GR_nil) ?_
            refine GT_nil ?_
            first
              | exact GE_to (ih2 (j + 1, _, I3) ⟨by dsimp only; omega, by simpa using ho2l, fun i hi => by dsimp only; rw [getD_set (by omega)]; rcases Nat.lt_or_ge i j with r | r; rw [if_neg (by omega)]; exact hlo i r; obtain rfl : i = j := (by omega); rw [if_pos rfl, hmt, hej, if_pos rfl]; push_cast; rfl, fun i hi hi2 => by dsimp only at hi ⊢; rw [getD_set (by omega), if_neg (by omega)]; exact hhi i (by omega) hi2, hO3⟩ (by dsimp only; omega)) ⟨rfl, rfl, rfl, rfl, rfl, rfl, rfl, trivial⟩ HS.last
              | exact GE_to (ih2 (j + 1, o2, I2) ⟨by dsimp only; omega, ho2l, fun i hi => by dsimp only at hi; rcases Nat.lt_or_ge i j with r | r; exact hlo i r; obtain rfl : i = j := (by omega); rw [hmt, hej, if_neg (by decide)]; exact hhi i (Nat.le_refl _) hjl, fun i hi hi2 => hhi i (by dsimp only at hi; omega) hi2, hO2⟩ (by dsimp only; omega)) ⟨rfl, rfl, rfl, rfl, rfl, rfl, rfl, trivial⟩ HS.last
          · skip
            refine GE_skip ?_
            refine GE_inBlock ?_
            refine GE_plain (.st 0 (.ld 1 [] .nil)) rfl ?_
            refine GT_st rfl rfl rfl rfl (V_add rfl rfl rfl (wrap_i64 (by omega))) ?_
            refine GT_ldv rfl rfl rfl rfl rfl (V_move rfl rfl) (GR_nil) ?_
            refine GT_nil ?_
            first
              | exact GE_to (ih2 (j + 1, _, I3) ⟨by dsimp only; omega, by simpa using ho2l, fun i hi => by dsimp only; rw [getD_set (by omega)]; rcases Nat.lt_or_ge i j with r | r; rw [if_neg (by omega)]; exact hlo i r; obtain rfl : i = j := (by omega); rw [if_pos rfl, hmt, hej, if_pos rfl]; push_cast; rfl, fun i hi hi2 => by dsimp only at hi ⊢; rw [getD_set (by omega), if_neg (by omega)]; exact hhi i (by omega) hi2, hO3⟩ (by dsimp only; omega)) ⟨rfl, rfl, rfl, rfl, rfl, rfl, rfl, trivial⟩ HS.last
              | exact GE_to (ih2 (j + 1, o2, I2) ⟨by dsimp only; omega, ho2l, fun i hi => by dsimp only at hi; rcases Nat.lt_or_ge i j with r | r; exact hlo i r; obtain rfl : i = j := (by omega); rw [hmt, hej, if_neg (by decide)]; exact hhi i (Nat.le_refl _) hjl, fun i hi hi2 => hhi i (by dsimp only at hi; omega) hi2, hO2⟩ (by dsimp only; omega)) ⟨rfl, rfl, rfl, rfl, rfl, rfl, rfl, trivial⟩ HS.last
        · obtain rfl : j = d.length := (by omega)
          refine GE_exit rfl ?_
          refine GE_inBlock ?_
          refine GE_slots (L' := [(5, _), (16, _), (17, _), (18, _)]) ⟨rfl, rfl, rfl, rfl, trivial⟩ ?_
          refine GE_plain (.st 0 (.ld 1 [] .nil)) rfl ?_
          refine GT_st rfl rfl rfl rfl (V_add rfl rfl rfl (wrap_i64 (by omega))) ?_
          refine GT_ldv rfl rfl rfl rfl rfl (V_move rfl rfl) (GR_nil) ?_
          refine GT_nil ?_
          exact GE_to (ih (k + 1, o2, I2) ⟨by dsimp only; omega, ho2l, fun i hi => hlo i (by omega), hO2⟩ (by dsimp only; omega)) ⟨rfl, rfl, rfl, rfl, trivial⟩ HS.last
      · exact ⟨Nat.zero_le _, hol, fun i hi => absurd hi (Nat.not_lt_zero _), fun i _ hi => hoi i hi, hO⟩
    · obtain rfl : k = l.length := (by omega); rw [List.take_of_length_le (by omega)] at hoi; obtain rfl : o = manyL d (l.map SusA.x) := ext_getD (by rw [hol, manyL_len]) (fun i hi => by rw [hoi i (by omega), manyL_get (by omega)])
      refine GE_exit rfl ?_
      refine GE_seq ?_
      refine GE_slots (L' := [(5, _)]) ⟨rfl, trivial⟩ ?_
      refine GE_plain (.st 0 (.st 1 .nil)) rfl ?_
      refine GT_st rfl rfl rfl rfl (V_move rfl rfl) ?_
      refine GT_st rfl rfl rfl rfl (V_assign rfl rfl) ?_
      refine GT_nil ?_
      refine GE_ret Try.func53 rfl (fun w hw => ⟨(b15, I1), hO, rfl, hw⟩)
      skip
  · exact ⟨Nat.zero_le _, by simp, fun i hi => by simp [mny, List.getD, hi], Own.made (x := (0 : Int)) rfl (Nat.le_trans hdl (by decide))⟩
end
end Go.Proofs.Ytfaggcmcfhljpaa
